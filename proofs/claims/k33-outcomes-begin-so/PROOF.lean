import PyProof.Rows.All
import Wide.All
import OpenK.AllK
import Wide.FinOn
import HandS.ForMost
import HandS.ForExc
import HandS.Walk
import HandS.TupAny
import HandS.Wide
import HandS.IsInst
import KE.KDictKeyed
import PyProof.P3Eq
import PyProof.NeData
import PyProof.Rows.SeqMore
import KE.GoesNew
import KE.GoesMore
import KE.GoesEnum
import HandS.Zip
import PyProof.AutoSeq1
import HandS.More
import KE.SortData
import HandS.EndBits
import HandS.Steps
import HandS.Rev
import PyProof.StrOps2
import HandS.Text
import HandS.Dict
import KE.KDictSum
import HandS.ExcIs
import HandS.TryOnly
import HandS.RevRange
import HandS.List
import PyProof.StrCalls
import KE.DataMinMax
import PySem.Challenge.RW_turnery_k33_outcomes_begin_so
set_option Elab.async false
set_option linter.all false
set_option maxRecDepth 100000
set_option maxHeartbeats 4000000
noncomputable section
namespace Mir
open PySem PySem.Spec L2

abbrev D := PyData
/-- what stands in the program's heap, and the world -/
structure Kw where
  K : PySem.W.Frag
  w : World
instance : CoeOut Kw PySem.W.Frag := ⟨Kw.K⟩
/-- a value in a mirror: data that stays, or a list or a dict that the def owns -/
inductive Ow where
  | d (x : D)
  | l (xs : List Ow)
  | m (kvs : List (D × D))
  /-- a tuple with own things in it -/
  | t (xs : List Ow)
  /-- a dict whose keys are whole numbers and texts, and one whose keys are tuples; its values may be own -/
  | k (ks : List D) (xs : List Ow)
  | n (ks : List D) (xs : List Ow)
  /-- an instance of a class, its fields by names -/
  | o (c : Str) (ns : List Str) (xs : List Ow)
abbrev Ev := List (Option Ow)
abbrev _root_.L2.Cx.KK (X : L2.Cx) : Kw := ⟨X.K, X.w⟩

/-- a pure outcome: none (not mirrored), a value, an exception's class -/
inductive R (α : Type) where
  | no
  | ok (a : α)
  | ex (c : Str)
def R.bind {α β : Type} : R α → (α → R β) → R β
  | .no, _ => .no
  | .ok a, f => f a
  | .ex c, _ => .ex c
@[simp] theorem R.bind_ok {α β : Type} (a : α) (f : α → R β) : (R.ok a).bind f = f a := rfl
@[simp] theorem R.bind_no {α β : Type} (f : α → R β) : (R.no : R α).bind f = .no := rfl
@[simp] theorem R.bind_ex {α β : Type} (c : Str) (f : α → R β) : (R.ex c : R α).bind f = .ex c := rfl
def R.map {α β : Type} (f : α → β) (r : R α) : R β := r.bind fun a => .ok (f a)
@[simp] theorem R.map_ok {α β : Type} (a : α) (f : α → β) : (R.ok a).map f = .ok (f a) := rfl
/-- r where c holds (by a choice that nothing reckons with) -/
def guard (c : Prop) {α : Type} (r : R α) : R α := @ite _ c (Classical.propDecidable c) r .no
@[simp] theorem guard_pos {c : Prop} {α : Type} {r : R α} (h : c) : guard c r = r := @if_pos _ (Classical.propDecidable c) h _ _ _

def insD : D := .dict [(.none, .none)]
mutual
def viewD : Ow → D
  | .d x => x
  | .l xs => .list (viewAll xs)
  | .m kvs => .dict kvs
  | .t xs => .tuple (viewAll xs)
  | .k ks xs => .dict (ks.zip (viewAll xs))
  | .n ks xs => .dict (ks.zip (viewAll xs))
  | .o _ _ _ => insD
def viewAll : List Ow → List D
  | [] => []
  | x :: xs => viewD x :: viewAll xs
end
@[simp] theorem viewD_d (x : D) : viewD (.d x) = x := by unfold viewD; rfl
@[simp] theorem viewD_m (kvs : List (D × D)) : viewD (.m kvs) = .dict kvs := by rw [viewD]
@[simp] theorem viewD_l (xs : List Ow) : viewD (.l xs) = .list (viewAll xs) := by rw [viewD]
@[simp] theorem viewD_t (xs : List Ow) : viewD (.t xs) = .tuple (viewAll xs) := by rw [viewD]
@[simp] theorem viewD_k (ks : List D) (xs : List Ow) : viewD (.k ks xs) = .dict (ks.zip (viewAll xs)) := by rw [viewD]
@[simp] theorem viewD_n (ks : List D) (xs : List Ow) : viewD (.n ks xs) = .dict (ks.zip (viewAll xs)) := by rw [viewD]
@[simp] theorem viewD_o (c : Str) (ns : List Str) (xs : List Ow) : viewD (.o c ns xs) = insD := by rw [viewD]
@[simp] theorem viewAll_nil : viewAll [] = [] := by rw [viewAll]
@[simp] theorem viewAll_cons (x : Ow) (xs : List Ow) : viewAll (x :: xs) = viewD x :: viewAll xs := by rw [viewAll]
theorem viewAll_map : ∀ xs : List Ow, viewAll xs = xs.map viewD
  | [] => by rw [viewAll]; rfl
  | x :: xs => by rw [viewAll, viewAll_map xs]; rfl
@[simp] theorem viewAll_mapd : ∀ xs : List D, viewAll (xs.map Ow.d) = xs
  | [] => by simp
  | x :: xs => by simp [viewAll_mapd xs]

/-- a dict's key as data -/
def keyD : Key → D
  | .inl i => .int i
  | .inr z => .str z
/-- an exception of a class of the program's own -/
def excO (K : Kw) (a : Addr) (c : Str) : HO := .ext fun h => ∃ C oe vs, PySem.W.nsIn K.K mainGlobals c = some (some (.ref C)) ∧ h.get? a = some oe ∧ Zc (.ref C) none oe ∧ oe.data = .fields vs
/-- a dict whose keys are tuples, nested ones among them -/
def rowN (w : World) (x : NestedKey × Addr × Value) : DictEntry := ⟨x.1.hash w, .ref x.2.1, x.2.2⟩
def RelN (p : NestedKey × Addr × V) (q : NestedKey × Addr × Value) : Prop := p.1 = q.1 ∧ p.2.1 = q.2.1 ∧ RelV p.2.2 q.2.2
def dnO (w : World) (a : Addr) (kvs : List (NestedKey × Addr × V)) : HO := .ext fun h => kvs.length ≤ sizeLine ∧ (a == sysModules) = false ∧ ∃ xs : List (NestedKey × Addr × Value), Paired RelN kvs xs ∧
  ∃ o es ep, h.get? a = some o ∧ o.ExactDict ∧ o.data = .dict es ep ∧ es.toList = xs.map (rowN w) ∧ (xs.map (·.1)).Nodup
mutual
inductive Dp (K : Kw) (H : Hp) : V → PyData → Prop
  | non : Dp K H .non .none
  | bl (b : Bool) : Dp K H (.bl b) (.bool b)
  | int (i : Int) : Dp K H (.int i) (.int i)
  | str (x : Str) : Dp K H (.str x) (.str x)
  | lst {a : Addr} {xs : List V} {ds : List PyData} : SqL K.K H a xs → DpAll K H xs ds → Dp K H (.ref a) (.list ds)
  | tup {a : Addr} {xs : List V} {ds : List PyData} : SqT K.K H a xs → DpAll K H xs ds → Dp K H (.ref a) (.tuple ds)
  | dct {a : Addr} {kvs : List (Key × V)} {ps : List (PyData × PyData)} : H a = some (.dK kvs) → DpKv K H kvs ps → Dp K H (.ref a) (.dict ps)
  | dcn {a : Addr} {kvs : List (NestedKey × Addr × V)} {ps : List (PyData × PyData)} : H a = some (dnO K.w a kvs) → DpKn K H kvs ps → Dp K H (.ref a) (.dict ps)
  | exc {a : Addr} {c : Str} : H a = some (excO K a c) → Dp K H (.ref a) (.dict [(.none, .str c)])
  | ins {a C dx : Addr} {fs : List (Str × V)} : H a = some (.ins C dx fs) → Dp K H (.ref a) (.dict [(.none, .none)])
inductive DpAll (K : Kw) (H : Hp) : List V → List PyData → Prop
  | nil : DpAll K H [] []
  | cons {v : V} {vs : List V} {d : PyData} {ds : List PyData} : Dp K H v d → DpAll K H vs ds → DpAll K H (v :: vs) (d :: ds)
inductive DpKv (K : Kw) (H : Hp) : List (Key × V) → List (PyData × PyData) → Prop
  | nil : DpKv K H [] []
  | cons {k : Key} {v : V} {kvs : List (Key × V)} {d : PyData} {ps : List (PyData × PyData)} : Dp K H v d → DpKv K H kvs ps → DpKv K H ((k, v) :: kvs) ((keyD k, d) :: ps)
inductive DpKn (K : Kw) (H : Hp) : List (NestedKey × Addr × V) → List (PyData × PyData) → Prop
  | nil : DpKn K H [] []
  | cons {k : NestedKey} {b : Addr} {v : V} {kvs : List (NestedKey × Addr × V)} {d : PyData} {ps : List (PyData × PyData)} : Dp K H (.ref b) k.data → k.depth ≤ 8 → Dp K H v d → DpKn K H kvs ps → DpKn K H ((k, b, v) :: kvs) ((k.data, d) :: ps)
end
section
variable {K : Kw}
theorem SqT_mono {K : PySem.W.Frag} {H H' : Hp} {a : Addr} {xs : List V} (e : Same H H') (h : SqT K H a xs) : SqT K H' a xs := by
  rcases h with (h | ⟨o, h⟩) | h
  · exact .inl (.inl (e _ _ h))
  · exact .inl (.inr ⟨o, e _ _ h⟩)
  · exact .inr h
mutual
theorem Dp.mono {H H' : Hp} (e : Same H H') : ∀ (d : D) (v : V), Dp K H v d → Dp K H' v d
  | .none, _, h => by cases h; exact .non
  | .bool b, _, h => by cases h; exact .bl b
  | .int b, _, h => by cases h; exact .int b
  | .str b, _, h => by cases h; exact .str b
  | .list ds, _, h => by
    cases h with
    | lst hs ha => exact .lst (e.seq hs) (DpAll.mono e ds _ ha)
  | .tuple ds, _, h => by
    cases h with
    | tup hs ha => exact .tup (SqT_mono e hs) (DpAll.mono e ds _ ha)
  | .dict ps, _, h => by
    cases h with
    | dct hs ha => exact .dct (e _ _ hs) (DpKv.mono e ps _ ha)
    | dcn hs ha => exact .dcn (e _ _ hs) (DpKn.mono e ps _ ha)
    | exc hs => exact .exc (e _ _ hs)
    | ins hs => exact .ins (e _ _ hs)
theorem DpAll.mono {H H' : Hp} (e : Same H H') : ∀ (ds : List D) (vs : List V), DpAll K H vs ds → DpAll K H' vs ds
  | [], _, h => by cases h; exact .nil
  | d :: ds, _, h => by
    cases h with
    | cons h1 h2 => exact .cons (Dp.mono e d _ h1) (DpAll.mono e ds _ h2)
theorem DpKv.mono {H H' : Hp} (e : Same H H') : ∀ (ps : List (D × D)) (kvs : List (Key × V)), DpKv K H kvs ps → DpKv K H' kvs ps
  | [], _, h => by cases h; exact .nil
  | (x, d) :: ps, _, h => by
    cases h with
    | cons h1 h2 => exact .cons (Dp.mono e d _ h1) (DpKv.mono e ps _ h2)
theorem DpKn.mono {H H' : Hp} (e : Same H H') : ∀ (ps : List (D × D)) (kvs : List (NestedKey × Addr × V)), DpKn K H kvs ps → DpKn K H' kvs ps
  | [], _, h => by cases h; exact .nil
  | (x, d) :: ps, _, h => by
    cases h with
    | cons h0 h1 h2 h3 => exact .cons (Dp.mono e _ _ h0) h1 (Dp.mono e d _ h2) (DpKn.mono e ps _ h3)
end
mutual
/-- as the kit has it, where no dict is within -/
theorem Dp.kit {H : Hp} : ∀ (d : D) (v : V), Dp K H v d → d.canLay0 = true → L2.Dp K.K H v d
  | .none, _, h, _ => by cases h; exact .non
  | .bool b, _, h, _ => by cases h; exact .bl b
  | .int b, _, h, _ => by cases h; exact .int b
  | .str b, _, h, _ => by cases h; exact .str b
  | .list ds, _, h, c => by
    cases h with
    | lst hs ha => exact .lst hs (DpAll.kit ds _ ha (by rw [PyData.canLay0] at c; exact c))
  | .tuple ds, _, h, c => by
    cases h with
    | tup hs ha => exact .tup hs (DpAll.kit ds _ ha (by rw [PyData.canLay0] at c; exact c))
  | .dict _, _, _, c => by rw [PyData.canLay0] at c; cases c
theorem DpAll.kit {H : Hp} : ∀ (ds : List D) (vs : List V), DpAll K H vs ds → PyData.canLayAll0 ds = true → L2.DpAll K.K H vs ds
  | [], _, h, _ => by cases h; exact .nil
  | d :: ds, _, h, c => by
    rw [PyData.canLayAll0, Bool.and_eq_true] at c
    cases h with
    | cons h1 h2 => exact .cons (Dp.kit d _ h1 c.1) (DpAll.kit ds _ h2 c.2)
end
theorem dpUp {H H' : Hp} {v : V} {d : D} (h : Dp K H v d) (e : Same H H') : Dp K H' v d := Dp.mono e d v h
theorem dpaUp {H H' : Hp} {v : List V} {d : List D} (h : DpAll K H v d) (e : Same H H') : DpAll K H' v d := DpAll.mono e d v h
theorem DpAll.len {H : Hp} : ∀ {vs : List V} {ds : List D}, DpAll K H vs ds → vs.length = ds.length
  | _, [], h => by cases h; rfl
  | _, d :: ds, h => by
    cases h with
    | cons h1 h2 => simp [DpAll.len h2]
theorem DpAll.get {H : Hp} : ∀ {vs : List V} {ds : List D} {i : Nat} {d : D}, DpAll K H vs ds → ds[i]? = some d → ∃ v, vs[i]? = some v ∧ Dp K H v d
  | _, [], i, d, h, e => by simp at e
  | _, x :: ds, 0, d, h, e => by
    cases h with
    | cons h1 h2 => simp at e; subst e; exact ⟨_, rfl, h1⟩
  | _, x :: ds, i + 1, d, h, e => by
    cases h with
    | cons h1 h2 =>
      obtain ⟨v, q, r⟩ := DpAll.get (i := i) h2 (by simpa using e)
      exact ⟨v, by simpa using q, r⟩
theorem DpAll.getV {H : Hp} : ∀ {vs : List V} {ds : List D} {i : Nat} {v : V}, DpAll K H vs ds → vs[i]? = some v → ∃ d, ds[i]? = some d ∧ Dp K H v d
  | _, [], i, v, h, e => by cases h; simp at e
  | _, x :: ds, 0, v, h, e => by
    cases h with
    | cons h1 h2 => simp at e; subst e; exact ⟨_, rfl, h1⟩
  | _, x :: ds, i + 1, v, h, e => by
    cases h with
    | cons h1 h2 =>
      obtain ⟨d, q, r⟩ := DpAll.getV (i := i) h2 (by simpa using e)
      exact ⟨d, by simpa using q, r⟩
theorem DpAll.append {H : Hp} : ∀ {vs ws : List V} {ds es : List D}, DpAll K H vs ds → DpAll K H ws es → DpAll K H (vs ++ ws) (ds ++ es)
  | _, _, [], _, h, g => by cases h; exact g
  | _, _, d :: ds, _, h, g => by
    cases h with
    | cons h1 h2 => exact .cons h1 (DpAll.append h2 g)
theorem DpAll.take {H : Hp} : ∀ {vs : List V} {ds : List D} (n : Nat), DpAll K H vs ds → DpAll K H (vs.take n) (ds.take n)
  | _, [], n, h => by cases h; simp; exact .nil
  | _, d :: ds, 0, h => by simp; exact .nil
  | _, d :: ds, n + 1, h => by
    cases h with
    | cons h1 h2 => exact .cons h1 (DpAll.take n h2)
theorem DpAll.drop {H : Hp} : ∀ {vs : List V} {ds : List D} (n : Nat), DpAll K H vs ds → DpAll K H (vs.drop n) (ds.drop n)
  | _, [], n, h => by cases h; simp; exact .nil
  | _, d :: ds, 0, h => h
  | _, d :: ds, n + 1, h => by
    cases h with
    | cons h1 h2 => exact DpAll.drop n h2
theorem DpAll.ints {H : Hp} : ∀ {vs : List V} (ns : List Int), DpAll K H vs (ns.map PyData.int) → vs = ns.map V.int
  | _, [], h => by cases h; rfl
  | _, n :: ns, h => by
    cases h with
    | cons h1 h2 => cases h1; simp [DpAll.ints ns h2]
theorem DpAll.of_ints {H : Hp} : ∀ (ns : List Int), DpAll K H (ns.map V.int) (ns.map PyData.int)
  | [] => .nil
  | n :: ns => .cons (.int n) (DpAll.of_ints ns)

/-- frozen facts F, the tracked heap H, behind a step that changes nothing that stood -/
structure Ext (F H F' H' : Hp) : Prop where
  ff : Same F F'
  hh : Same H H'
  fn : ∀ b o, F' b = some o → F b = some o ∨ H b = none
  fh : Same F' H'
theorem Ext.refl {F H : Hp} (h : Same F H) : Ext F H F H := ⟨Same.refl _, Same.refl _, fun _ _ h => .inl h, h⟩
theorem Ext.trans {F H F1 H1 F2 H2 : Hp} (a : Ext F H F1 H1) (b : Ext F1 H1 F2 H2) : Ext F H F2 H2 :=
  ⟨a.ff.trans b.ff, a.hh.trans b.hh, fun c o h => by
    rcases b.fn c o h with q | q
    · exact a.fn c o q
    · exact .inr (a.hh.free q), b.fh⟩
theorem free_of {F H : Hp} (s : Same F H) {p : Addr} (h : H p = none) : F p = none := s.free h
theorem same_upd {H : Hp} {p : Addr} (h : H p = none) (o : HO) : Same H (upd H p o) := fun b u q => by rw [upd_ne (ne_of_none q h)]; exact q
theorem same_upd2 {F H : Hp} (s : Same F H) {p : Addr} (h : H p = none) (o : HO) : Same (upd F p o) (upd H p o) := fun b u q => by
  by_cases e : b = p
  · subst e; rw [upd_same] at q ⊢; exact q
  · rw [upd_ne e] at q ⊢; exact s _ _ q
/-- a new object, frozen at once -/
theorem Ext.frz {F H : Hp} (s : Same F H) {p : Addr} (h : H p = none) (o : HO) : Ext F H (upd F p o) (upd H p o) :=
  ⟨same_upd (free_of s h) o, same_upd h o, fun b u q => by
    by_cases e : b = p
    · subst e; exact .inr h
    · rw [upd_ne e] at q; exact .inl q, same_upd2 s h o⟩
/-- a new object of the def's own -/
theorem Ext.own {F H : Hp} (s : Same F H) {p : Addr} (h : H p = none) (o : HO) : Ext F H F (upd H p o) :=
  ⟨Same.refl _, same_upd h o, fun _ _ q => .inl q, s.trans (same_upd h o)⟩

mutual
inductive OwnAt (K : Kw) (F H : Hp) : V → Ow → List Addr → Prop
  | d {v : V} {x : D} : Dp K F v x → OwnAt K F H v (.d x) []
  | l {a : Addr} {vs : List V} {os : List Ow} {fp : List Addr} : F a = none → H a = some (.lst vs) → OwnAll K F H vs os fp → OwnAt K F H (.ref a) (.l os) (a :: fp)
  | m {a : Addr} {kvs : List (Key × V)} {ps : List (D × D)} : F a = none → H a = some (.dK kvs) → DpKv K F kvs ps → OwnAt K F H (.ref a) (.m ps) [a]
  | t {a : Addr} {vs : List V} {os : List Ow} {fp : List Addr} : SqT K.K F a vs → OwnAll K F H vs os fp → OwnAt K F H (.ref a) (.t os) fp
  | k {a : Addr} {kvs : List (Key × V)} {os : List Ow} {fp : List Addr} : F a = none → H a = some (.dK kvs) → OwnAll K F H (kvs.map (·.2)) os fp → OwnAt K F H (.ref a) (.k (kvs.map fun p => keyD p.1) os) (a :: fp)
  | n {a : Addr} {kvs : List (NestedKey × Addr × V)} {os : List Ow} {fp : List Addr} : F a = none → H a = some (dnO K.w a kvs) → (∀ p ∈ kvs, Dp K F (.ref p.2.1) p.1.data ∧ p.1.depth ≤ 8) → OwnAll K F H (kvs.map (·.2.2)) os fp → OwnAt K F H (.ref a) (.n (kvs.map (·.1.data)) os) (a :: fp)
  | o {c : Str} {a C dx : Addr} {fs : List (Str × V)} {os : List Ow} {fp : List Addr} : PySem.W.nsIn K.K mainGlobals c = some (some (.ref C)) → F a = none → F dx = none → H a = some (.ins C dx fs) → H dx = some (.own a) → OwnAll K F H (fs.map (·.2)) os fp → OwnAt K F H (.ref a) (.o c (fs.map (·.1)) os) (a :: dx :: fp)
inductive OwnAll (K : Kw) (F H : Hp) : List V → List Ow → List Addr → Prop
  | nil : OwnAll K F H [] [] []
  | cons {v : V} {vs : List V} {o : Ow} {os : List Ow} {fp fps : List Addr} : OwnAt K F H v o fp → OwnAll K F H vs os fps → OwnAll K F H (v :: vs) (o :: os) (fp ++ fps)
end
/-- the step of a statement: what is owned (fp) may change -/
structure StepS (F H : Hp) (fp : List Addr) (F' H' : Hp) (fp' : List Addr) : Prop where
  ff : Same F F'
  fr : ∀ b o, H b = some o → b ∉ fp → H' b = some o
  fn : ∀ b o, F' b = some o → F b = some o ∨ b ∈ fp ∨ H b = none
  sub : ∀ b ∈ fp', b ∈ fp ∨ H b = none
theorem StepS.of_ext {F H F' H' : Hp} (e : Ext F H F' H') (fp : List Addr) : StepS F H fp F' H' fp :=
  ⟨e.ff, fun b o h _ => e.hh b o h, fun b o h => (e.fn b o h).imp id .inr, fun b h => .inl h⟩
theorem StepS.trans {F H F1 H1 F2 H2 : Hp} {fp fp1 fp2 : List Addr} (a : StepS F H fp F1 H1 fp1) (b : StepS F1 H1 fp1 F2 H2 fp2) : StepS F H fp F2 H2 fp2 := by
  have nn : ∀ c, H1 c = none → c ∈ fp ∨ H c = none := fun c h => by
    cases q : H c with
    | none => exact .inr rfl
    | some o =>
      by_cases hc : c ∈ fp
      · exact .inl hc
      · rw [a.fr c o q hc] at h; cases h
  refine ⟨a.ff.trans b.ff, fun c o h hc => b.fr c o (a.fr c o h hc) fun z => ?_, fun c o h => ?_, fun c h => ?_⟩
  · rcases a.sub c z with q | q
    · exact hc q
    · rw [h] at q; cases q
  · rcases b.fn c o h with q | q | q
    · exact a.fn c o q
    · exact .inr (a.sub c q)
    · exact .inr (nn c q)
  · rcases b.sub c h with q | q
    · exact a.sub c q
    · exact nn c q
theorem StepS.mono {F H F1 H1 : Hp} {fp fp' fp1 : List Addr} (a : StepS F H fp F1 H1 fp1) (h : ∀ b ∈ fp, b ∈ fp') : StepS F H fp' F1 H1 fp1 :=
  ⟨a.ff, fun b o q n => a.fr b o q fun z => n (h b z), fun b o q => (a.fn b o q).imp id (.imp (h b) id), fun b q => (a.sub b q).imp (h b) id⟩
theorem StepS.subset {F H F1 H1 : Hp} {fp fp1 fp2 : List Addr} (a : StepS F H fp F1 H1 fp1) (h : ∀ b ∈ fp2, b ∈ fp1) : StepS F H fp F1 H1 fp2 :=
  ⟨a.ff, a.fr, a.fn, fun b q => a.sub b (h b q)⟩
theorem StepS.none_of {F H F' H' : Hp} {fx fy : List Addr} {a : Addr} {o : HO} (s : StepS F H fx F' H' fy) (h1 : F a = none) (h2 : H a = some o) (na : a ∉ fx) : F' a = none := by
  cases q : F' a with
  | none => rfl
  | some u =>
    rcases s.fn a u q with z | z | z
    · rw [h1] at z; cases z
    · exact absurd z na
    · rw [h2] at z; cases z

mutual
/-- what is owned apart from what changes stays -/
theorem OwnAt.keep {F H F' H' : Hp} {fx fy : List Addr} (s : StepS F H fx F' H' fy) : ∀ (o : Ow) (v : V) (fp : List Addr), OwnAt K F H v o fp → (∀ b ∈ fp, b ∉ fx) → OwnAt K F' H' v o fp
  | .d x, v, fp, h, _ => by
    cases h with
    | d q => exact .d (dpUp q s.ff)
  | .l os, v, fp, h, n => by
    cases h with
    | @l a vs _ fps h1 h2 h3 =>
      have na : a ∉ fx := n a List.mem_cons_self
      refine .l ?_ (s.fr _ _ h2 na) (OwnAll.keep s os vs fps h3 fun b hb => n b (List.mem_cons_of_mem _ hb))
      cases q : F' a with
      | none => rfl
      | some u =>
        rcases s.fn a u q with z | z | z
        · rw [h1] at z; cases z
        · exact absurd z na
        · rw [h2] at z; cases z
  | .m ps, v, fp, h, n => by
    cases h with
    | @m a kvs _ h1 h2 h3 =>
      have na : a ∉ fx := n a List.mem_cons_self
      refine .m ?_ (s.fr _ _ h2 na) (DpKv.mono s.ff ps _ h3)
      cases q : F' a with
      | none => rfl
      | some u =>
        rcases s.fn a u q with z | z | z
        · rw [h1] at z; cases z
        · exact absurd z na
        · rw [h2] at z; cases z
  | .t os, v, fp, h, n => by
    cases h with
    | @t a vs _ _ h1 h2 => exact .t (SqT_mono s.ff h1) (OwnAll.keep s os vs fp h2 n)
  | .k _ os, v, fp, h, n => by
    cases h with
    | @k a kvs _ fps h1 h2 h3 =>
      have na : a ∉ fx := n a List.mem_cons_self
      refine .k (s.none_of h1 h2 na) (s.fr _ _ h2 na) (OwnAll.keep s os _ fps h3 fun b hb => n b (List.mem_cons_of_mem _ hb))
  | .n _ os, v, fp, h, n => by
    cases h with
    | @n a kvs _ fps h1 h2 h3 h4 =>
      have na : a ∉ fx := n a List.mem_cons_self
      refine .n (s.none_of h1 h2 na) (s.fr _ _ h2 na) (fun p hp => ⟨Dp.mono s.ff _ _ (h3 p hp).1, (h3 p hp).2⟩) (OwnAll.keep s os _ fps h4 fun b hb => n b (List.mem_cons_of_mem _ hb))
  | .o _ _ os, v, fp, h, n => by
    cases h with
    | @o c a C dx fs _ fps h0 h1 h2 h3 h4 h5 =>
      have na : a ∉ fx := n a List.mem_cons_self
      have nd : dx ∉ fx := n dx (List.mem_cons_of_mem _ List.mem_cons_self)
      exact .o h0 (s.none_of h1 h3 na) (s.none_of h2 h4 nd) (s.fr _ _ h3 na) (s.fr _ _ h4 nd) (OwnAll.keep s os _ fps h5 fun b hb => n b (List.mem_cons_of_mem _ (List.mem_cons_of_mem _ hb)))
theorem OwnAll.keep {F H F' H' : Hp} {fx fy : List Addr} (s : StepS F H fx F' H' fy) : ∀ (os : List Ow) (vs : List V) (fp : List Addr), OwnAll K F H vs os fp → (∀ b ∈ fp, b ∉ fx) → OwnAll K F' H' vs os fp
  | [], vs, fp, h, _ => by cases h; exact .nil
  | o :: os, vs, fp, h, n => by
    cases h with
    | cons h1 h2 => exact .cons (OwnAt.keep s o _ _ h1 fun b hb => n b (List.mem_append_left _ hb)) (OwnAll.keep s os _ _ h2 fun b hb => n b (List.mem_append_right _ hb))
end
theorem OwnAt.ext {F H F' H' : Hp} {v : V} {o : Ow} {fp : List Addr} (h : OwnAt K F H v o fp) (e : Ext F H F' H') : OwnAt K F' H' v o fp :=
  OwnAt.keep (StepS.of_ext e []) o v fp h fun _ _ => by simp
theorem OwnAll.ext {F H F' H' : Hp} {v : List V} {o : List Ow} {fp : List Addr} (h : OwnAll K F H v o fp) (e : Ext F H F' H') : OwnAll K F' H' v o fp :=
  OwnAll.keep (StepS.of_ext e []) o v fp h fun _ _ => by simp
mutual
theorem OwnAt.there {F H : Hp} : ∀ (o : Ow) (v : V) (fp : List Addr), OwnAt K F H v o fp → ∀ b ∈ fp, F b = none ∧ ∃ o, H b = some o
  | .d x, v, fp, h, b, hb => by cases h; cases hb
  | .l os, v, fp, h, b, hb => by
    cases h with
    | l h1 h2 h3 =>
      rcases List.mem_cons.mp hb with e | e
      · subst e; exact ⟨h1, _, h2⟩
      · exact OwnAll.there os _ _ h3 b e
  | .m ps, v, fp, h, b, hb => by
    cases h with
    | m h1 h2 h3 =>
      rw [List.mem_singleton] at hb
      subst hb; exact ⟨h1, _, h2⟩
  | .t os, v, fp, h, b, hb => by
    cases h with
    | t h1 h2 => exact OwnAll.there os _ _ h2 b hb
  | .k _ os, v, fp, h, b, hb => by
    cases h with
    | k h1 h2 h3 =>
      rcases List.mem_cons.mp hb with e | e
      · subst e; exact ⟨h1, _, h2⟩
      · exact OwnAll.there os _ _ h3 b e
  | .n _ os, v, fp, h, b, hb => by
    cases h with
    | n h1 h2 h3 h4 =>
      rcases List.mem_cons.mp hb with e | e
      · subst e; exact ⟨h1, _, h2⟩
      · exact OwnAll.there os _ _ h4 b e
  | .o _ _ os, v, fp, h, b, hb => by
    cases h with
    | o h0 h1 h2 h3 h4 h5 =>
      rcases List.mem_cons.mp hb with e | e
      · subst e; exact ⟨h1, _, h3⟩
      · rcases List.mem_cons.mp e with e | e
        · subst e; exact ⟨h2, _, h4⟩
        · exact OwnAll.there os _ _ h5 b e
theorem OwnAll.there {F H : Hp} : ∀ (o : List Ow) (v : List V) (fp : List Addr), OwnAll K F H v o fp → ∀ b ∈ fp, F b = none ∧ ∃ o, H b = some o
  | [], v, fp, h, b, hb => by cases h; cases hb
  | o :: os, v, fp, h, b, hb => by
    cases h with
    | cons h1 h2 =>
      rcases List.mem_append.mp hb with e | e
      · exact OwnAt.there o _ _ h1 b e
      · exact OwnAll.there os _ _ h2 b e
end
theorem dpKv_zip {H : Hp} : ∀ {kvs : List (Key × V)} {ds : List D}, DpAll K H (kvs.map (·.2)) ds → DpKv K H kvs ((kvs.map fun p => keyD p.1).zip ds)
  | [], _, h => by cases h; exact .nil
  | p :: kvs, _, h => by
    cases h with
    | cons h1 h2 => exact .cons h1 (dpKv_zip h2)
theorem dpKn_zip {H : Hp} : ∀ {kvs : List (NestedKey × Addr × V)} {ds : List D}, (∀ p ∈ kvs, Dp K H (.ref p.2.1) p.1.data ∧ p.1.depth ≤ 8) → DpAll K H (kvs.map (·.2.2)) ds → DpKn K H kvs ((kvs.map (·.1.data)).zip ds)
  | [], _, _, h => by cases h; exact .nil
  | p :: kvs, _, g, h => by
    cases h with
    | cons h1 h2 => exact .cons (g p List.mem_cons_self).1 (g p List.mem_cons_self).2 h1 (dpKn_zip (fun q hq => g q (List.mem_cons_of_mem _ hq)) h2)
mutual
theorem OwnAt.view {F H : Hp} (s : Same F H) : ∀ (o : Ow) (v : V) (fp : List Addr), OwnAt K F H v o fp → Dp K H v (viewD o)
  | .d x, v, fp, h => by
    cases h with
    | d q => rw [viewD]; exact dpUp q s
  | .l os, v, fp, h => by
    cases h with
    | l h1 h2 h3 => rw [viewD]; exact .lst (SqL.of h2) (OwnAll.view s os _ _ h3)
  | .m ps, v, fp, h => by
    cases h with
    | m h1 h2 h3 => rw [viewD]; exact .dct h2 (DpKv.mono s ps _ h3)
  | .t os, v, fp, h => by
    cases h with
    | t h1 h2 => rw [viewD]; exact .tup (SqT_mono s h1) (OwnAll.view s os _ _ h2)
  | .k _ os, v, fp, h => by
    cases h with
    | k h1 h2 h3 => rw [viewD]; exact .dct h2 (dpKv_zip (OwnAll.view s os _ _ h3))
  | .n _ os, v, fp, h => by
    cases h with
    | n h1 h2 h3 h4 => rw [viewD]; exact .dcn h2 (dpKn_zip (fun p hp => ⟨Dp.mono s _ _ (h3 p hp).1, (h3 p hp).2⟩) (OwnAll.view s os _ _ h4))
  | .o _ _ os, v, fp, h => by
    cases h with
    | o h0 h1 h2 h3 h4 h5 => rw [viewD]; exact .ins h3
theorem OwnAll.view {F H : Hp} (s : Same F H) : ∀ (o : List Ow) (v : List V) (fp : List Addr), OwnAll K F H v o fp → DpAll K H v (viewAll o)
  | [], v, fp, h => by cases h; rw [viewAll]; exact .nil
  | o :: os, v, fp, h => by
    cases h with
    | cons h1 h2 => rw [viewAll]; exact .cons (OwnAt.view s o _ _ h1) (OwnAll.view s os _ _ h2)
end
theorem OwnAll.len {F H : Hp} : ∀ {os : List Ow} {vs : List V} {fp : List Addr}, OwnAll K F H vs os fp → vs.length = os.length
  | [], _, _, h => by cases h; rfl
  | o :: os, _, _, h => by
    cases h with
    | cons h1 h2 => simp [OwnAll.len h2]
/-- F with the objects at fp as they stand in H -/
def frzAt (F H : Hp) (fp : List Addr) : Hp := fun b => if b ∈ fp then H b else F b
theorem frzAt_same {F H : Hp} {fp : List Addr} (n : ∀ b ∈ fp, F b = none) : Same F (frzAt F H fp) := fun b o h => by
  have : b ∉ fp := fun z => by rw [n b z] at h; cases h
  simp [frzAt, this, h]
theorem frzAt_in {F H : Hp} {fp : List Addr} (s : Same F H) : Same (frzAt F H fp) H := fun b o h => by
  unfold frzAt at h
  split at h
  · exact h
  · exact s _ _ h
theorem frzAt_of {F H : Hp} {fp : List Addr} {b : Addr} {o : HO} (h : frzAt F H fp b = some o) : F b = some o ∨ b ∈ fp := by
  unfold frzAt at h
  split at h
  · exact .inr ‹_›
  · exact .inl h
mutual
theorem OwnAt.frz {F H : Hp} {fx : List Addr} (nx : ∀ b ∈ fx, F b = none) : ∀ (o : Ow) (v : V) (fp : List Addr), OwnAt K F H v o fp → (∀ b ∈ fp, b ∈ fx) → Dp K (frzAt F H fx) v (viewD o)
  | .d x, v, fp, h, _ => by
    cases h with
    | d q => rw [viewD]; exact dpUp q (frzAt_same nx)
  | .l os, v, fp, h, hs => by
    cases h with
    | @l a _ _ _ h1 h2 h3 =>
      rw [viewD]
      have e : frzAt F H fx a = some (.lst _) := (if_pos (hs a List.mem_cons_self)).trans h2
      exact .lst (SqL.of e) (OwnAll.frz nx os _ _ h3 fun b hb => hs b (List.mem_cons_of_mem _ hb))
  | .m ps, v, fp, h, hs => by
    cases h with
    | @m a _ _ h1 h2 h3 =>
      rw [viewD]
      have e : frzAt F H fx a = some (.dK _) := (if_pos (hs a List.mem_cons_self)).trans h2
      exact .dct e (DpKv.mono (frzAt_same nx) ps _ h3)
  | .t os, v, fp, h, hs => by
    cases h with
    | t h1 h2 => rw [viewD]; exact .tup (SqT_mono (frzAt_same nx) h1) (OwnAll.frz nx os _ _ h2 hs)
  | .k _ os, v, fp, h, hs => by
    cases h with
    | @k a _ _ _ h1 h2 h3 =>
      rw [viewD]
      have e : frzAt F H fx a = some (.dK _) := (if_pos (hs a List.mem_cons_self)).trans h2
      exact .dct e (dpKv_zip (OwnAll.frz nx os _ _ h3 fun b hb => hs b (List.mem_cons_of_mem _ hb)))
  | .n _ os, v, fp, h, hs => by
    cases h with
    | @n a _ _ _ h1 h2 h3 h4 =>
      rw [viewD]
      have e : frzAt F H fx a = some (dnO _ _ _) := (if_pos (hs a List.mem_cons_self)).trans h2
      exact .dcn e (dpKn_zip (fun p hp => ⟨Dp.mono (frzAt_same nx) _ _ (h3 p hp).1, (h3 p hp).2⟩) (OwnAll.frz nx os _ _ h4 fun b hb => hs b (List.mem_cons_of_mem _ hb)))
  | .o _ _ os, v, fp, h, hs => by
    cases h with
    | @o c a C dx fs _ _ h0 h1 h2 h3 h4 h5 =>
      rw [viewD]
      have e : frzAt F H fx a = some (.ins _ _ _) := (if_pos (hs a List.mem_cons_self)).trans h3
      exact .ins e
theorem OwnAll.frz {F H : Hp} {fx : List Addr} (nx : ∀ b ∈ fx, F b = none) : ∀ (o : List Ow) (v : List V) (fp : List Addr), OwnAll K F H v o fp → (∀ b ∈ fp, b ∈ fx) → DpAll K (frzAt F H fx) v (viewAll o)
  | [], v, fp, h, _ => by cases h; rw [viewAll]; exact .nil
  | o :: os, v, fp, h, hs => by
    cases h with
    | cons h1 h2 => rw [viewAll]; exact .cons (OwnAt.frz nx o _ _ h1 fun b hb => hs b (List.mem_append_left _ hb)) (OwnAll.frz nx os _ _ h2 fun b hb => hs b (List.mem_append_right _ hb))
end
/-- a fresh owned value made data -/
theorem Ext.freeze {F H F' H' : Hp} {v : V} {o : Ow} {fp : List Addr} (e : Ext F H F' H') (h : OwnAt K F' H' v o fp) (n : ∀ b ∈ fp, H b = none) :
    ∃ F2, Ext F H F2 H' ∧ Dp K F2 v (viewD o) := by
  have nx : ∀ b ∈ fp, F' b = none := fun b hb => (OwnAt.there o v fp h b hb).1
  refine ⟨frzAt F' H' fp, ⟨e.ff.trans (frzAt_same nx), e.hh, fun b u q => ?_, frzAt_in e.fh⟩, OwnAt.frz nx o v fp h fun _ z => z⟩
  rcases frzAt_of q with z | z
  · exact e.fn b u z
  · exact .inr (n b z)

inductive EnvAt (K : Kw) (F H : Hp) : St → Ev → List Addr → Prop
  | nil : EnvAt K F H [] [] []
  | non {x : Option V} {σ : St} {env : Ev} {fp : List Addr} : EnvAt K F H σ env fp → EnvAt K F H (x :: σ) (none :: env) fp
  | som {v : V} {o : Ow} {σ : St} {env : Ev} {fp fps : List Addr} : OwnAt K F H v o fp → EnvAt K F H σ env fps → EnvAt K F H (some v :: σ) (some o :: env) (fp ++ fps)
theorem EnvAt.keep {F H F' H' : Hp} {fx fy : List Addr} (s : StepS F H fx F' H' fy) : ∀ {σ : St} {env : Ev} {fp : List Addr}, EnvAt K F H σ env fp → (∀ b ∈ fp, b ∉ fx) → EnvAt K F' H' σ env fp := by
  intro σ env fp h
  induction h with
  | nil => intro _; exact .nil
  | non h ih => intro n; exact .non (ih n)
  | som h1 h2 ih => intro n; exact .som (OwnAt.keep s _ _ _ h1 fun b hb => n b (List.mem_append_left _ hb)) (ih fun b hb => n b (List.mem_append_right _ hb))
theorem EnvAt.ext {F H F' H' : Hp} {σ : St} {env : Ev} {fp : List Addr} (h : EnvAt K F H σ env fp) (e : Ext F H F' H') : EnvAt K F' H' σ env fp :=
  h.keep (StepS.of_ext e []) fun _ _ => by simp
theorem EnvAt.there {F H : Hp} {σ : St} {env : Ev} {fp : List Addr} (h : EnvAt K F H σ env fp) : ∀ b ∈ fp, F b = none ∧ ∃ o, H b = some o := by
  induction h with
  | nil => intro b hb; cases hb
  | non h ih => exact ih
  | som h1 h2 ih =>
    intro b hb
    rcases List.mem_append.mp hb with e | e
    · exact OwnAt.there _ _ _ h1 b e
    · exact ih b e
theorem EnvAt.len {F H : Hp} {σ : St} {env : Ev} {fp : List Addr} (h : EnvAt K F H σ env fp) : σ.length = env.length := by
  induction h with
  | nil => rfl
  | non h ih => simp [ih]
  | som h1 h2 ih => simp [ih]
/-- a slot read: its own footprint, and the others' -/
theorem EnvAt.get {F H : Hp} {σ : St} {env : Ev} {fp : List Addr} (h : EnvAt K F H σ env fp) : ∀ {i : Nat} {o : Ow}, env[i]? = some (some o) → ∃ v fo, σ[i]? = some (some v) ∧ OwnAt K F H v o fo ∧ (∀ b ∈ fo, b ∈ fp) := by
  induction h with
  | nil => intro i o e; simp at e
  | non h ih =>
    intro i o e
    cases i with
    | zero => simp at e
    | succ i => simpa using ih (i := i) (by simpa using e)
  | @som v o' σ' env' fp1 fps h1 h2 ih =>
    intro i o e
    cases i with
    | zero =>
      simp at e; subst e
      exact ⟨v, fp1, rfl, h1, fun b hb => List.mem_append_left _ hb⟩
    | succ i =>
      obtain ⟨v2, fo, a, b, c⟩ := ih (i := i) (by simpa using e)
      exact ⟨v2, fo, by simpa using a, b, fun b hb => List.mem_append_right _ (c b hb)⟩
/-- a slot changed: the rest keeps; fo what stood there, fr the rest (F, H may have moved by a step within fo) -/
theorem EnvAt.put {F H : Hp} {σ : St} {env : Ev} {fp : List Addr} (h : EnvAt K F H σ env fp) : ∀ {i : Nat}, i < env.length → fp.Nodup → ∃ fr fo, (∀ b ∈ fr, b ∈ fp) ∧ (∀ b ∈ fo, b ∈ fp) ∧ fr.Nodup ∧ fo.Nodup ∧ (∀ b ∈ fo, b ∉ fr) ∧
    (∀ o, env[i]? = some (some o) → ∃ v, σ[i]? = some (some v) ∧ OwnAt K F H v o fo) ∧
    ∀ (F' H' : Hp) (fx fy : List Addr), StepS F H fx F' H' fy → (∀ b ∈ fr, b ∉ fx) → (∀ (x : Option V), EnvAt K F' H' (σ.set i x) (env.set i none) fr) ∧ ∀ (v : V) (o : Ow) (fn : List Addr), OwnAt K F' H' v o fn → fn.Nodup → (∀ b ∈ fn, b ∉ fr) → ∃ fp', fp'.Nodup ∧ (∀ b ∈ fp', b ∈ fn ∨ b ∈ fr) ∧ EnvAt K F' H' (σ.set i (some v)) (env.set i (some o)) fp' := by
  induction h with
  | nil => intro i hi; simp at hi
  | @non x σ' env' fps h ih =>
    intro i hi hn
    cases i with
    | zero =>
      refine ⟨fps, [], fun b z => z, (fun b z => nomatch z), hn, List.nodup_nil, fun b z => (nomatch z), fun o e => by simp at e, fun F' H' fx fy s n => ⟨fun x => .non (h.keep s n), fun v o fn ho hd hx => ?_⟩⟩
      refine ⟨fn ++ fps, ?_, fun b hb => List.mem_append.mp hb, .som ho (h.keep s n)⟩
      rw [List.nodup_append]
      exact ⟨hd, hn, fun a ha b hb e => hx a ha (e ▸ hb)⟩
    | succ i =>
      obtain ⟨fr, fo, a1, a2, a3, a3', a4, a5, a6⟩ := ih (i := i) (by simpa using hi) hn
      refine ⟨fr, fo, a1, a2, a3, a3', a4, by simpa using a5, fun F' H' fx fy s n => ⟨fun x => .non ((a6 F' H' fx fy s n).1 x), fun v o fn ho hd hx => ?_⟩⟩
      obtain ⟨fp', b1, b2, b3⟩ := (a6 F' H' fx fy s n).2 v o fn ho hd hx
      exact ⟨fp', b1, b2, .non b3⟩
  | @som v0 o0 σ' env' f1 fps h1 h2 ih =>
    intro i hi hn
    rw [List.nodup_append] at hn
    obtain ⟨n1, n2, n3⟩ := hn
    cases i with
    | zero =>
      refine ⟨fps, f1, fun b z => List.mem_append_right _ z, fun b z => List.mem_append_left _ z, n2, n1, fun b z q => n3 b z b q rfl, fun o e => ?_, fun F' H' fx fy s n => ⟨fun x => .non (h2.keep s n), fun v o fn ho hd hx => ?_⟩⟩
      · simp at e; subst e; exact ⟨v0, rfl, h1⟩
      · refine ⟨fn ++ fps, ?_, fun b hb => List.mem_append.mp hb, .som ho (h2.keep s n)⟩
        rw [List.nodup_append]
        exact ⟨hd, n2, fun a ha b hb e => hx a ha (e ▸ hb)⟩
    | succ i =>
      obtain ⟨fr, fo, a1, a2, a3, a3', a4, a5, a6⟩ := ih (i := i) (by simpa using hi) n2
      have dis : ∀ b ∈ f1, b ∉ fr := fun b z q => n3 b z b (a1 b q) rfl
      have key : ∀ (F' H' : Hp) (fx fy : List Addr), StepS F H fx F' H' fy → (∀ b ∈ f1 ++ fr, b ∉ fx) → OwnAt K F' H' v0 o0 f1 := fun F' H' fx fy s n => OwnAt.keep s _ _ _ h1 fun b hb => n b (List.mem_append_left _ hb)
      refine ⟨f1 ++ fr, fo, fun b z => ?_, fun b z => List.mem_append_right _ (a2 b z), ?_, a3', fun b z q => ?_, by simpa using a5, fun F' H' fx fy s n => ⟨fun x => .som (key F' H' fx fy s n) ((a6 F' H' fx fy s fun b hb => n b (List.mem_append_right _ hb)).1 x), fun v o fn ho hd hx => ?_⟩⟩
      · rcases List.mem_append.mp z with z | z
        · exact List.mem_append_left _ z
        · exact List.mem_append_right _ (a1 b z)
      · rw [List.nodup_append]; exact ⟨n1, a3, fun a ha b hb e => dis a ha (e ▸ hb)⟩
      · rcases List.mem_append.mp q with q | q
        · exact n3 b q b (a2 b z) rfl
        · exact a4 b z q
      · obtain ⟨fp', b1, b2, b3⟩ := (a6 F' H' fx fy s fun b hb => n b (List.mem_append_right _ hb)).2 v o fn ho hd fun b hb q => hx b hb (List.mem_append_right _ q)
        have dj : ∀ b ∈ f1, b ∉ fp' := fun b z q => by
          rcases b2 b q with r | r
          · exact hx b r (List.mem_append_left _ z)
          · exact dis b z r
        refine ⟨f1 ++ fp', ?_, fun b hb => ?_, .som (key F' H' fx fy s n) b3⟩
        · rw [List.nodup_append]; exact ⟨n1, b1, fun a ha b hb e => dj a ha (e ▸ hb)⟩
        · rcases List.mem_append.mp hb with r | r
          · exact .inr (List.mem_append_left _ r)
          · exact (b2 b r).imp id (List.mem_append_right _)

structure Sat (K : Kw) (F H : Hp) (σ : St) (env : Ev) (fp : List Addr) : Prop where
  fh : Same F H
  en : EnvAt K F H σ env fp
  nd : fp.Nodup
theorem Sat.ext {F H F' H' : Hp} {σ : St} {env : Ev} {fp : List Addr} (s : Sat K F H σ env fp) (e : Ext F H F' H') : Sat K F' H' σ env fp := ⟨e.fh, s.en.ext e, s.nd⟩
end
end Mir
end
set_option Elab.async false
set_option linter.all false
set_option maxRecDepth 100000
set_option maxHeartbeats 4000000
noncomputable section
namespace Mir
open PySem PySem.Spec L2

def Post (X : Cx) (W : WX) {α β : Type} (P : Hp → α → β → Hp → Hp → Prop) (F H : Hp) (σ : L2.St) : R α → (β → Hp → Prop) → Prop
  | .no, _ => False
  | .ok a, Q => ∀ v F' H', Ext F H F' H' → P H a v F' H' → Q v H'
  | .ex c, _ => ∀ C F' H', X.mg c = some (.ref C) → Ext F H F' H' → W (.ref C) none σ H'
class Anti {α β : Type} (P : Hp → α → β → Hp → Hp → Prop) : Prop where
  anti : ∀ {H H1 : Hp} {a : α} {v : β} {F' H' : Hp}, Same H H1 → P H1 a v F' H' → P H a v F' H'
def PVw (K : Kw) (_ : Hp) (d : D) (v : V) (_ H' : Hp) : Prop := Dp K H' v d
def PFz (K : Kw) (_ : Hp) (d : D) (v : V) (F' _ : Hp) : Prop := Dp K F' v d
def POw (K : Kw) (H : Hp) (r : Ow) (v : V) (F' H' : Hp) : Prop := ∃ fp, OwnAt K F' H' v r fp ∧ fp.Nodup ∧ ∀ b ∈ fp, H b = none
/-- a list or tuple whose items are frozen, though it may itself change; other data -/
def PSq (K : Kw) (_ : Hp) (d : D) (v : V) (F' H' : Hp) : Prop := match d with
  | .list ds => ∃ a vs, v = .ref a ∧ SqL K H' a vs ∧ DpAll K F' vs ds
  | d => Dp K F' v d
def PTb (_ : Hp) (b : Bool) (v : Bool) (_ _ : Hp) : Prop := v = b
def PAv (K : Kw) (_ : Hp) (ds : List D) (vs : List V) (_ H' : Hp) : Prop := DpAll K H' vs ds
def PAf (K : Kw) (_ : Hp) (ds : List D) (vs : List V) (F' _ : Hp) : Prop := DpAll K F' vs ds
variable {K : Kw}
instance : Anti (PVw K) := ⟨fun _ h => h⟩
instance : Anti (PFz K) := ⟨fun _ h => h⟩
instance : Anti (PSq K) := ⟨fun {_ _ _ _ _ _} _ h => h⟩
instance : Anti PTb := ⟨fun _ h => h⟩
instance : Anti (PAv K) := ⟨fun _ h => h⟩
instance : Anti (PAf K) := ⟨fun _ h => h⟩
instance : Anti (POw K) := ⟨fun s ⟨fp, a, b, c⟩ => ⟨fp, a, b, fun x hx => s.free (c x hx)⟩⟩

/-- the semantics: t (a reading) is implied by the mirror f -/
def Sm (X : Cx) (W : WX) {α β : Type} (P : Hp → α → β → Hp → Hp → Prop) (t : L2.St → Hp → (β → Hp → Prop) → Prop) (f : Ev → R α) : Prop :=
  ∀ F H σ env fp Q, Sat X.KK F H σ env fp → Post X W P F H σ (f env) Q → t σ H Q
section
variable {X : Cx} {W : WX} {α β γ δ : Type}
theorem Post.ext {P : Hp → α → β → Hp → Hp → Prop} [Anti P] {F H F1 H1 : Hp} {σ : L2.St} {r : R α} {Q : β → Hp → Prop} (h : Post X W P F H σ r Q) (e : Ext F H F1 H1) : Post X W P F1 H1 σ r Q := by
  cases r with
  | no => exact h
  | ok a => exact fun v F' H' e' p => h v F' H' (e.trans e') (Anti.anti e.hh p)
  | ex c => exact fun C F' H' m e' => h C F' H' m (e.trans e')
/-- evaluate one part, go on -/
theorem Sm.go {P : Hp → α → β → Hp → Hp → Prop} {P2 : Hp → γ → δ → Hp → Hp → Prop} [Anti P2] {t : L2.St → Hp → (β → Hp → Prop) → Prop} {f : Ev → R α} (s : Sm X W P t f) {g : α → R γ} {F H : Hp} {σ : L2.St} {env : Ev} {fp : List Addr} {Q : δ → Hp → Prop} {T : β → Hp → Prop}
    (sat : Sat X.KK F H σ env fp) (h : Post X W P2 F H σ ((f env).bind g) Q) (k : ∀ a v F1 H1, Sat X.KK F1 H1 σ env fp → P H a v F1 H1 → Ext F H F1 H1 → Post X W P2 F1 H1 σ (g a) Q → T v H1) : t σ H T := by
  refine s F H σ env fp T sat ?_
  cases e : f env with
  | no => rw [e] at h; exact h
  | ok a =>
    rw [e] at h
    exact fun v F' H' x p => k a v F' H' (sat.ext x) p x (Post.ext (show Post X W P2 F H σ (g a) Q from h) x)
  | ex c => rw [e] at h; exact h
theorem Post.thru {β' : Type} {P : Hp → α → β → Hp → Hp → Prop} {P2 : Hp → γ → β' → Hp → Hp → Prop} {F H : Hp} {σ : L2.St} {r : R α} {g : α → R γ} {Q : β → Hp → Prop} {Q2 : β' → Hp → Prop} (h : Post X W P2 F H σ (r.bind g) Q2)
    (k : ∀ a, r = .ok a → Post X W P2 F H σ (g a) Q2 → ∀ v F' H', Ext F H F' H' → P H a v F' H' → Q v H') : Post X W P F H σ r Q := by
  cases r with
  | no => exact h
  | ok a => exact k a rfl h
  | ex c => exact h
theorem Sm.map {P : Hp → α → β → Hp → Hp → Prop} {P2 : Hp → γ → β → Hp → Hp → Prop} {t : L2.St → Hp → (β → Hp → Prop) → Prop} {f : Ev → R α} (s : Sm X W P t f) {g : α → R γ} (k : ∀ H a v F' H', Same F' H' → P H a v F' H' → ∃ c, g a = .ok c ∧ P2 H c v F' H') :
    Sm X W P2 t fun env => (f env).bind g := by
  intro F H σ env fp Q sat h
  refine s F H σ env fp Q sat (Post.thru h fun a _ h' v F' H' x p => ?_)
  obtain ⟨c, hc, q⟩ := k H a v F' H' x.fh p
  rw [hc] at h'
  exact h' v F' H' x q
end

def eB {α β : Type} (f : Ev → R α) (g : α → R β) (env : Ev) : R β := (f env).bind g
def eM {α β : Type} (f : Ev → R α) (g : α → β) (env : Ev) : R β := (f env).map g

section
variable (X : Cx) (W : WX)
def DV (e : Expr) (f : Ev → R D) : Prop := ∃ t, PE X e t ∧ Sm X W (PVw X.KK) t f
def DF (e : Expr) (f : Ev → R D) : Prop := ∃ t, PE X e t ∧ Sm X W (PFz X.KK) t f
def DE (e : Expr) (f : Ev → R Ow) : Prop := ∃ t, PE X e t ∧ Sm X W (POw X.KK) t f
def DL (e : Expr) (f : Ev → R D) : Prop := ∃ t, PE X e t ∧ Sm X W (PSq X.KK) t f
def DT (e : Expr) (f : Ev → R Bool) : Prop := ∃ t, PT X e t ∧ Sm X W PTb t f
def DW (e : Expr) (f : Ev → R Bool) : Prop := ∃ t, PW X e t ∧ Sm X W PTb t f
def DAv (es : List Expr) (f : Ev → R (List D)) : Prop := ∃ t, PA X es t ∧ Sm X W (PAv X.KK) t f
def DA (es : List Expr) (f : Ev → R (List D)) : Prop := ∃ t, PA X es t ∧ Sm X W (PAf X.KK) t f
end
def unD : Ow → Option D
  | .d x => some x
  | .l _ => none
  | _ => none
def unDs : List Ow → Option (List D)
  | [] => some []
  | o :: os => (unD o).bind fun x => (unDs os).map fun xs => x :: xs
@[simp] theorem unDs_map : ∀ ds : List D, unDs (ds.map Ow.d) = some ds
  | [] => rfl
  | d :: ds => by simp [unDs, unD, unDs_map ds]
theorem unDs_eq : ∀ {os : List Ow} {ds : List D}, unDs os = some ds → os = ds.map Ow.d
  | [], ds, h => by simp [unDs] at h; subst h; rfl
  | .d x :: os, ds, h => by
    simp only [unDs, unD, Option.bind_some, Option.map_eq_some_iff] at h
    obtain ⟨xs, h1, h2⟩ := h
    subst h2
    rw [unDs_eq h1]; rfl
  | .l _ :: os, ds, h => by simp [unDs, unD] at h
  | .m _ :: os, ds, h => by simp [unDs, unD] at h
  | .t _ :: os, ds, h => by simp [unDs, unD] at h
  | .k _ _ :: os, ds, h => by simp [unDs, unD] at h
  | .n _ _ :: os, ds, h => by simp [unDs, unD] at h
  | .o _ _ _ :: os, ds, h => by simp [unDs, unD] at h
def shD : Ow → R D
  | .d x => .ok x
  | .l os => match unDs os with
    | some ds => .ok (.list ds)
    | none => .no
  | _ => .no
@[simp] theorem shD_d (x : D) : shD (.d x) = .ok x := rfl
@[simp] theorem shD_l (ds : List D) : shD (.l (ds.map Ow.d)) = .ok (.list ds) := by simp [shD]
@[simp] theorem shD_nil : shD (.l []) = .ok (.list []) := rfl
theorem OwnAll.dp {F H : Hp} : ∀ {ds : List D} {vs : List V} {fp : List Addr}, OwnAll K F H vs (ds.map Ow.d) fp → DpAll K F vs ds ∧ fp = []
  | [], _, _, h => by cases h; exact ⟨.nil, rfl⟩
  | d :: ds, _, _, h => by
    cases h with
    | cons h1 h2 =>
      cases h1 with
      | d q =>
        obtain ⟨a, b⟩ := OwnAll.dp (ds := ds) h2
        exact ⟨.cons q a, by rw [b]; rfl⟩
theorem OwnAll.of_dp {F H : Hp} : ∀ {ds : List D} {vs : List V}, DpAll K F vs ds → OwnAll K F H vs (ds.map Ow.d) []
  | [], _, h => by cases h; exact .nil
  | d :: ds, _, h => by
    cases h with
    | cons h1 h2 => exact .cons (fp := []) (.d h1) (OwnAll.of_dp h2)
theorem PSq.of {F H : Hp} {v : V} {d : D} {H0 : Hp} (s : Same F H) (h : Dp K F v d) : PSq K H0 d v F H := by
  cases d with
  | list ds =>
    cases h with
    | lst hs ha => exact ⟨_, _, rfl, s.seq hs, ha⟩
  | _ => exact h
theorem PSq.view {F H : Hp} {v : V} {d : D} {H0 : Hp} (s : Same F H) (h : PSq K H0 d v F H) : Dp K H v d := by
  cases d with
  | list ds =>
    obtain ⟨a, vs, rfl, h1, h2⟩ := h
    exact .lst h1 (dpaUp h2 s)
  | _ => exact dpUp (show Dp K F v _ from h) s
theorem PSq.ext {F H F1 H1 : Hp} {v : V} {d : D} {H0 H2 : Hp} (e : Ext F H F1 H1) (h : PSq K H0 d v F H) : PSq K H2 d v F1 H1 := by
  cases d with
  | list ds =>
    obtain ⟨a, vs, rfl, h1, h2⟩ := h
    exact ⟨_, _, rfl, e.hh.seq h1, dpaUp h2 e.ff⟩
  | _ => exact dpUp (show Dp K F v _ from h) e.ff
theorem own_seq {F H : Hp} {v : V} {o : Ow} {fp : List Addr} {d : D} {H0 : Hp} (s : Same F H) (h : OwnAt K F H v o fp) (e : shD o = .ok d) : PSq K H0 d v F H := by
  cases o with
  | d x =>
    cases h with
    | d p =>
      cases e
      exact .of s p
  | l os =>
    cases h with
    | l h1 h2 h3 =>
      have e' : (match unDs os with | some ds => (R.ok (.list ds) : R D) | none => .no) = .ok d := e
      clear e
      cases u : unDs os with
      | none => rw [u] at e'; cases e'
      | some ds =>
        rw [u] at e'
        cases e'
        rw [unDs_eq u] at h3
        exact ⟨_, _, rfl, SqL.of h2, (OwnAll.dp h3).1⟩
  | _ => cases e
theorem shD_ex (o : Ow) (c : Str) : shD o ≠ .ex c := fun e => by
  cases o with
  | d x => cases e
  | l os =>
    have e' : (match unDs os with | some ds => (R.ok (.list ds) : R D) | none => .no) = .ex c := e
    split at e' <;> cases e'
  | _ => cases e
theorem shD_ok {X : Cx} {W : WX} {β : Type} {P : Hp → D → β → Hp → Hp → Prop} {F H : Hp} {σ : L2.St} {o : Ow} {Q : β → Hp → Prop} (h : Post X W P F H σ (shD o) Q) : ∃ r, shD o = .ok r := by
  cases e2 : shD o with
  | no => rw [e2] at h; exact h.elim
  | ex c => exact absurd e2 (shD_ex o c)
  | ok r => exact ⟨r, rfl⟩
section
variable {X : Cx} {W : WX} {e a b : Expr} {es : List Expr} {pos : Pos}
theorem dv_df {f : Ev → R D} (h : DF X W e f) : DV X W e f := by
  obtain ⟨t, p, s⟩ := h
  refine ⟨t, p, fun F H σ env fp Q sat h => s F H σ env fp Q sat ?_⟩
  cases e : f env with
  | no => rw [e] at h; exact h
  | ex c => rw [e] at h; exact h
  | ok d => rw [e] at h; exact fun v F' H' x q => h v F' H' x (dpUp q x.fh)
theorem dv_de {f : Ev → R Ow} (h : DE X W e f) : DV X W e (eM f viewD) := by
  obtain ⟨t, p, s⟩ := h
  refine ⟨t, p, Sm.map s fun H o v F' H' sm ⟨fp, q, _⟩ => ⟨viewD o, rfl, OwnAt.view sm o v fp q⟩⟩
theorem de_df {f : Ev → R D} (h : DF X W e f) : DE X W e (eM f Ow.d) := by
  obtain ⟨t, p, s⟩ := h
  refine ⟨t, p, Sm.map s fun H d v F' H' sm q => ⟨.d d, rfl, [], .d q, List.nodup_nil, fun b z => nomatch z⟩⟩
theorem df_de {f : Ev → R Ow} (h : DE X W e f) : DF X W e (eM f viewD) := by
  obtain ⟨t, p, s⟩ := h
  refine ⟨t, p, fun F H σ env fp Q sat h => s F H σ env fp Q sat (Post.thru h fun d _ h' v F' H' x ⟨fp, q, _, n⟩ => ?_)⟩
  obtain ⟨F2, x2, q2⟩ := x.freeze q n
  exact h' v F2 H' x2 q2
theorem dl_df {f : Ev → R D} (h : DF X W e f) : DL X W e f := by
  obtain ⟨t, p, s⟩ := h
  refine ⟨t, p, fun F H σ env fp Q sat h => s F H σ env fp Q sat ?_⟩
  cases e : f env with
  | no => rw [e] at h; exact h
  | ex c => rw [e] at h; exact h
  | ok d => rw [e] at h; exact fun v F' H' x q => h v F' H' x (.of x.fh q)
theorem dl_de {f : Ev → R Ow} (h : DE X W e f) : DL X W e (eB f shD) := by
  obtain ⟨t, p, s⟩ := h
  refine ⟨t, p, fun F H σ env fp Q sat h => s F H σ env fp Q sat (Post.thru h fun d _ h' v F' H' x ⟨fp, q, _, n⟩ => ?_)⟩
  obtain ⟨r, e2⟩ := shD_ok h'
  rw [e2] at h'
  exact h' v F' H' x (own_seq x.fh q e2)
def eVar (i : Nat) (env : Ev) : R D := match env[i]? with
  | some (some (.d x)) => .ok x
  | _ => .no
def eVarO (i : Nat) (env : Ev) : R Ow := match env[i]? with
  | some (some o) => .ok o
  | _ => .no
theorem eVar_ok {P : Hp → D → V → Hp → Hp → Prop} {F H : Hp} {σ : L2.St} {i : Nat} {env : Ev} {Q : VK} (h : Post X W P F H σ (eVar i env) Q) : ∃ d, env[i]? = some (some (.d d)) ∧ eVar i env = .ok d := by
  unfold eVar at h ⊢
  split at h
  · rename_i d he
    exact ⟨d, he, rfl⟩
  · exact h.elim
theorem eVarO_ok {γ : Type} {P : Hp → γ → V → Hp → Hp → Prop} {F H : Hp} {σ : L2.St} {i : Nat} {env : Ev} {Q : VK} {g : Ow → R γ} (h : Post X W P F H σ ((eVarO i env).bind g) Q) : ∃ d, env[i]? = some (some d) ∧ eVarO i env = .ok d ∧ Post X W P F H σ (g d) Q := by
  unfold eVarO at h ⊢
  cases e : env[i]? with
  | none => rw [e] at h; exact h.elim
  | some o =>
    cases o with
    | none => rw [e] at h; exact h.elim
    | some o => rw [e] at h; exact ⟨o, rfl, rfl, h⟩
theorem df_var (i : Nat) {x : Str} (hN : X.N[i]? = some x := by rfl) (hv : Vis X.env.scope x := by first | exact Or.inl rfl | exact Or.inr (Or.inl rfl) | exact Or.inr (Or.inr rfl)) (hd : (x == ("__debug__" : Str)) = false := by decide)
    (hcd : (x == ("__classdict__" : Str)) = false := by decide) : DF X W (.Name x pos) (eVar i) := by
  refine ⟨_, pe_var hN hv hd hcd, fun F H σ env fp Q sat h => ?_⟩
  obtain ⟨d, he, e2⟩ := eVar_ok h
  rw [e2] at h
  obtain ⟨v, fo, h1, h2, _⟩ := sat.en.get he
  cases h2 with
  | d q => exact ⟨v, h1, h v F H (.refl sat.fh) q⟩
def eC (d : D) (_ : Ev) : R D := .ok d
theorem df_int {i j} : DF X W (.Constant (.int i) j pos) (eC (.int i)) := ⟨_, pe_int, fun F H σ env fp Q sat h => h _ F H (.refl sat.fh) (.int i)⟩
theorem df_bl {i j} : DF X W (.Constant (.bool i) j pos) (eC (.bool i)) := ⟨_, pe_bl, fun F H σ env fp Q sat h => h _ F H (.refl sat.fh) (.bl i)⟩
theorem df_str {i j} : DF X W (.Constant (.str i) j pos) (eC (.str i)) := ⟨_, pe_str, fun F H σ env fp Q sat h => h _ F H (.refl sat.fh) (.str i)⟩
def aNil (_ : Ev) : R (List D) := .ok []
def aCons (f : Ev → R D) (g : Ev → R (List D)) (env : Ev) : R (List D) := (f env).bind fun d => (g env).map fun ds => d :: ds
theorem da_nil : DA X W [] aNil := ⟨_, pa_nil, fun F H σ env fp Q sat h => h _ F H (.refl sat.fh) .nil⟩
theorem da_cons {f : Ev → R D} {g : Ev → R (List D)} (hf : DF X W e f) (hg : DA X W es g) (hs : starEach (e :: es) X.env = (false, eval e X.env) :: starEach es X.env := by rfl) : DA X W (e :: es) (aCons f g) := by
  obtain ⟨t, p, s⟩ := hf
  obtain ⟨t', p', s'⟩ := hg
  refine ⟨_, pa_cons p p' hs, fun F H σ env fp Q sat h => ?_⟩
  refine s.go sat h fun d v F1 H1 sat1 q _ h1 => ?_
  refine s'.go sat1 h1 fun ds vs F2 H2 sat2 q' x2 h2 => ?_
  exact h2 _ F2 H2 (.refl sat2.fh) (.cons (dpUp q x2.ff) q')
theorem dav_nil : DAv X W [] aNil := ⟨_, pa_nil, fun F H σ env fp Q sat h => h _ F H (.refl sat.fh) .nil⟩
theorem dav_cons {f : Ev → R D} {g : Ev → R (List D)} (hf : DV X W e f) (hg : DAv X W es g) (hs : starEach (e :: es) X.env = (false, eval e X.env) :: starEach es X.env := by rfl) : DAv X W (e :: es) (aCons f g) := by
  obtain ⟨t, p, s⟩ := hf
  obtain ⟨t', p', s'⟩ := hg
  refine ⟨_, pa_cons p p' hs, fun F H σ env fp Q sat h => ?_⟩
  refine s.go sat h fun d v F1 H1 sat1 q _ h1 => ?_
  refine s'.go sat1 h1 fun ds vs F2 H2 sat2 q' x2 h2 => ?_
  exact h2 _ F2 H2 (.refl sat2.fh) (.cons (dpUp q x2.hh) q')
def eTup (f : Ev → R (List D)) (env : Ev) : R D := (f env).bind fun ds => guard (ds.length ≤ sizeLine) (.ok (.tuple ds))
def eLst (f : Ev → R (List D)) (env : Ev) : R Ow := (f env).bind fun ds => guard (ds.length ≤ sizeLine) (.ok (.l (ds.map Ow.d)))
theorem guard_post {P : Hp → α → β → Hp → Hp → Prop} {F H : Hp} {σ : L2.St} {c : Prop} {r : R α} {Q : β → Hp → Prop} (h : Post X W P F H σ (guard c r) Q) : c ∧ Post X W P F H σ r Q := by
  unfold guard at h
  split at h
  · exact ⟨‹_›, h⟩
  · exact h.elim
theorem df_tup {x1} {f : Ev → R (List D)} (hf : DA X W es f) : DF X W (.Tuple es x1 pos) (eTup f) := by
  obtain ⟨t, p, s⟩ := hf
  refine ⟨_, pe_tup p, fun F H σ env fp Q sat h => ?_⟩
  refine s.go sat h fun ds vs F1 H1 sat1 q _ h1 => ?_
  obtain ⟨hl, h2⟩ := guard_post h1
  refine ⟨by rw [DpAll.len q]; exact hl, fun p hp => ?_⟩
  have x := Ext.frz sat1.fh hp (.tup vs)
  exact h2 _ _ _ x (.tup (SqT.of upd_same) (dpaUp q x.ff))
theorem de_lst {f : Ev → R (List D)} (hf : DA X W es f) : DE X W (.List es pos) (eLst f) := by
  obtain ⟨t, p, s⟩ := hf
  refine ⟨_, pe_lst p, fun F H σ env fp Q sat h => ?_⟩
  refine s.go sat h fun ds vs F1 H1 sat1 q _ h1 => ?_
  obtain ⟨hl, h2⟩ := guard_post h1
  refine ⟨by rw [DpAll.len q]; exact hl, fun p hp => ?_⟩
  have x := Ext.own sat1.fh hp (.lst vs)
  exact h2 _ _ _ x ⟨[p], .l (free_of sat1.fh hp) upd_same (OwnAll.of_dp q), by simp, by simpa using hp⟩

def R.of {α : Type} : Option α → R α
  | some a => .ok a
  | none => .no
@[simp] theorem R.of_some (a : α) : R.of (some a) = .ok a := rfl
@[simp] theorem R.of_none : R.of (none : Option α) = .no := rfl
/-- data in, flat data out, the heap as it was -/
def OpS (K : Kw) (r : R2) (g : D → D → Option D) : Prop := ∀ H x y dx dy d Q, Dp K H x dx → Dp K H y dy → g dx dy = some d → (∀ v, (∀ F, Dp K F v d) → Q v H) → r x y H Q
def eBin (g : D → D → Option D) (f h : Ev → R D) (env : Ev) : R D := (f env).bind fun x => (h env).bind fun y => R.of (g x y)
theorem post_of {P : Hp → α → β → Hp → Hp → Prop} {F H : Hp} {σ : L2.St} {o : Option α} {Q : β → Hp → Prop} (h : Post X W P F H σ (R.of o) Q) : ∃ a, o = some a ∧ ∀ v F' H', Ext F H F' H' → P H a v F' H' → Q v H' := by
  cases o with
  | none => exact h.elim
  | some a => exact ⟨a, rfl, h⟩
theorem op_sm {r : R2} {g : D → D → Option D} (hs : OpS X.KK r g) {ta tb : TE} {f h : Ev → R D} (sa : Sm X W (PVw X.KK) ta f) (sb : Sm X W (PVw X.KK) tb h) : Sm X W (PFz X.KK) (tOp r ta tb) (eBin g f h) := by
  intro F H σ env fp Q sat hp
  refine sa.go sat hp fun d v F1 H1 sat1 q _ h1 => ?_
  refine sb.go sat1 h1 fun d' v' F2 H2 sat2 q' x2 h2 => ?_
  obtain ⟨z, hz, h3⟩ := post_of h2
  exact hs H2 v v' d d' z Q (dpUp q x2.hh) q' hz fun u hu => h3 u F2 H2 (.refl sat2.fh) (hu _)
theorem df_bin {op : Operator} {r : R2} {g : D → D → Option D} (ho : OpR X (binaryOp op) r) (hs : OpS X.KK r g) {f h : Ev → R D} (ha : DV X W a f) (hb : DV X W b h) : DF X W (.BinOp a op b pos) (eBin g f h) := by
  obtain ⟨ta, pa, sa⟩ := ha
  obtain ⟨tb, pb, sb⟩ := hb
  exact ⟨_, pe_op ho pa pb, op_sm hs sa sb⟩
theorem df_cmp {op : CmpOp} {r : R2} {g : D → D → Option D} (ho : OpR X (compareOp op) r) (hs : OpS X.KK r g) {f h : Ev → R D} (ha : DV X W a f) (hb : DV X W b h) (hm : behindInMarks op b = false := by first | exact nomark _ | rfl) :
    DF X W (.Compare a [op] [b] pos) (eBin g f h) := by
  obtain ⟨ta, pa, sa⟩ := ha
  obtain ⟨tb, pb, sb⟩ := hb
  exact ⟨_, pe_cmpR ho pa pb hm, op_sm hs sa sb⟩
def asB : D → R Bool
  | .bool b => .ok b
  | _ => .no
@[simp] theorem asB_bool (b : Bool) : asB (.bool b) = .ok b := rfl
theorem tb_sm {t : TE} {f : Ev → R D} (s : Sm X W (PVw X.KK) t f) : Sm X W PTb (fun σ H Q => t σ H fun x H' => ∃ k, x = .bl k ∧ Q k H') (eB f asB) := by
  intro F H σ env fp Q sat hp
  refine s.go sat hp fun d v F1 H1 sat1 q _ h1 => ?_
  cases d with
  | bool b =>
    cases q
    exact ⟨b, rfl, h1 b F1 H1 (.refl sat1.fh) rfl⟩
  | _ => exact h1.elim
theorem dt_cmp {op : CmpOp} {r : R2} {g : D → D → Option D} (ho : OpR X (compareOp op) r) (hs : OpS X.KK r g) {f h : Ev → R D} (ha : DV X W a f) (hb : DV X W b h) (hm : behindInMarks op b = false := by first | exact nomark _ | rfl) :
    DT X W (.Compare a [op] [b] pos) (eB (eBin g f h) asB) := by
  obtain ⟨ta, pa, sa⟩ := ha
  obtain ⟨tb, pb, sb⟩ := hb
  refine ⟨_, pt_cmpR ho pa pb hm, tb_sm ?_⟩
  intro F H σ env fp Q sat hp
  refine op_sm hs sa sb F H σ env fp Q sat ?_
  cases e : eBin g f h env with
  | no => rw [e] at hp; exact hp
  | ex c => rw [e] at hp; exact hp
  | ok d => rw [e] at hp; exact fun v F' H' x q => hp v F' H' x (dpUp q x.fh)
theorem dt_val {f : Ev → R D} (h : DV X W e f) (he : ∀ whole, isTrue e X.env whole = (do let v ← whole; standAt e.pos; holding [v] (truthy v)) := by intro _; rfl) : DT X W e (eB f asB) := by
  obtain ⟨t, p, s⟩ := h
  exact ⟨_, pt_val p he, tb_sm s⟩
def tNotE (f : Ev → R Bool) (env : Ev) : R Bool := (f env).map (!·)
theorem dt_not {f : Ev → R Bool} (h : DT X W a f) : DT X W (.UnaryOp .Not a pos) (tNotE f) := by
  obtain ⟨t, p, s⟩ := h
  refine ⟨_, pt_not p, fun F H σ env fp Q sat hp => ?_⟩
  refine s.go sat hp fun b v F1 H1 sat1 q _ h1 => ?_
  obtain rfl : v = b := q
  exact h1 _ F1 H1 (.refl sat1.fh) rfl
def tAndE (f g : Ev → R Bool) (env : Ev) : R Bool := (f env).bind fun b => if b = true then g env else .ok false
def tOrE (f g : Ev → R Bool) (env : Ev) : R Bool := (f env).bind fun b => if b = true then .ok true else g env
theorem dw_and1 {f : Ev → R Bool} (h : DT X W a f) : DW X W (.BoolOp .And [a] pos) f := by
  obtain ⟨t, p, s⟩ := h
  exact ⟨_, pw_and1 p, s⟩
theorem dw_or1 {f : Ev → R Bool} (h : DT X W a f) : DW X W (.BoolOp .Or [a] pos) f := by
  obtain ⟨t, p, s⟩ := h
  exact ⟨_, pw_or1 p, s⟩
theorem dw_and {rest : List Expr} {f g : Ev → R Bool} (h : DT X W a f) (h2 : DW X W (.BoolOp .And (b :: rest) pos) g) : DW X W (.BoolOp .And (a :: b :: rest) pos) (tAndE f g) := by
  obtain ⟨t, p, s⟩ := h
  obtain ⟨t', p', s'⟩ := h2
  refine ⟨_, pw_and p p', fun F H σ env fp Q sat hp => ?_⟩
  refine s.go sat hp fun b v F1 H1 sat1 q _ h1 => ?_
  obtain rfl : v = b := q
  cases v with
  | true => exact s' F1 H1 σ env fp Q sat1 h1
  | false => exact h1 false F1 H1 (.refl sat1.fh) rfl
theorem dw_or {rest : List Expr} {f g : Ev → R Bool} (h : DT X W a f) (h2 : DW X W (.BoolOp .Or (b :: rest) pos) g) : DW X W (.BoolOp .Or (a :: b :: rest) pos) (tOrE f g) := by
  obtain ⟨t, p, s⟩ := h
  obtain ⟨t', p', s'⟩ := h2
  refine ⟨_, pw_or p p', fun F H σ env fp Q sat hp => ?_⟩
  refine s.go sat hp fun b v F1 H1 sat1 q _ h1 => ?_
  obtain rfl : v = b := q
  cases v with
  | false => exact s' F1 H1 σ env fp Q sat1 h1
  | true => exact h1 true F1 H1 (.refl sat1.fh) rfl
theorem dt_dw {f : Ev → R Bool} (h : DW X W a f) : DT X W a f := by
  obtain ⟨t, p, s⟩ := h
  exact ⟨_, p.pt, s⟩
def eAnd (f g : Ev → R D) (env : Ev) : R D := ((f env).bind asB).bind fun b => if b = true then g env else .ok (.bool false)
def eOr (f g : Ev → R D) (env : Ev) : R D := ((f env).bind asB).bind fun b => if b = true then .ok (.bool true) else g env
def eNot (f : Ev → R D) (env : Ev) : R D := ((f env).bind asB).bind fun b => .ok (.bool !b)
theorem R.bind_assoc {α β γ : Type} (r : R α) (f : α → R β) (g : β → R γ) : (r.bind f).bind g = r.bind fun a => (f a).bind g := by cases r <;> rfl
theorem df_one {op} {f : Ev → R D} (h : DF X W a f) : DF X W (.BoolOp op [a] pos) f := by
  obtain ⟨t, p, s⟩ := h
  exact ⟨_, pe_one p, s⟩
theorem df_and {rest : List Expr} {f g : Ev → R D} (h : DV X W a f) (h2 : DF X W (.BoolOp .And (b :: rest) pos) g) : DF X W (.BoolOp .And (a :: b :: rest) pos) (eAnd f g) := by
  obtain ⟨t, p, s⟩ := h
  obtain ⟨t', p', s'⟩ := h2
  refine ⟨_, pe_and p p', fun F H σ env fp Q sat hp => ?_⟩
  unfold eAnd at hp
  rw [R.bind_assoc] at hp
  refine s.go sat hp fun d v F1 H1 sat1 q _ h1 => ?_
  cases d with
  | bool b =>
    cases q
    refine ⟨b, rfl, ?_⟩
    cases b with
    | true => exact s' F1 H1 σ env fp Q sat1 h1
    | false => exact h1 _ F1 H1 (.refl sat1.fh) (.bl false)
  | _ => exact h1.elim
theorem df_not {f : Ev → R D} (h : DV X W a f) : DF X W (.UnaryOp .Not a pos) (eNot f) := by
  obtain ⟨t, p, s⟩ := h
  refine ⟨_, pe_not p, fun F H σ env fp Q sat hp => ?_⟩
  unfold eNot at hp
  rw [R.bind_assoc] at hp
  refine s.go sat hp fun d v F1 H1 sat1 q _ h1 => ?_
  cases d with
  | bool b =>
    cases q
    exact ⟨b, rfl, h1 _ F1 H1 (.refl sat1.fh) (.bl _)⟩
  | _ => exact h1.elim
def eIf (c : Ev → R Bool) (f g : Ev → R D) (env : Ev) : R D := (c env).bind fun b => if b = true then f env else g env
end
end Mir
end
set_option Elab.async false
set_option linter.all false
set_option maxRecDepth 100000
set_option maxHeartbeats 4000000
noncomputable section
namespace Mir
open PySem PySem.Spec L2

section
variable {K : Kw}
theorem dp_int {H : Hp} {v : V} {i : Int} (h : Dp K H v (.int i)) : v = .int i := by cases h; rfl
theorem dp_str {H : Hp} {v : V} {z : Str} (h : Dp K H v (.str z)) : v = .str z := by cases h; rfl
theorem dp_bool {H : Hp} {v : V} {z : Bool} (h : Dp K H v (.bool z)) : v = .bl z := by cases h; rfl
theorem dp_none {H : Hp} {v : V} (h : Dp K H v .none) : v = .non := by cases h; rfl
theorem dp_tup {H : Hp} {v : V} {ds : List D} (h : Dp K H v (.tuple ds)) : ∃ a vs, v = .ref a ∧ SqT K H a vs ∧ DpAll K H vs ds := by cases h with | tup a b => exact ⟨_, _, rfl, a, b⟩
theorem dp_lst {H : Hp} {v : V} {ds : List D} (h : Dp K H v (.list ds)) : ∃ a vs, v = .ref a ∧ SqL K H a vs ∧ DpAll K H vs ds := by cases h with | lst a b => exact ⟨_, _, rfl, a, b⟩

open Classical in
def gI (C : Int → Int → Prop) (f : Int → Int → Int) : D → D → Option D
  | .int i, .int j => if C i j then some (.int (f i j)) else none
  | _, _ => none
def gI0 (f : Int → Int → Int) : D → D → Option D
  | .int i, .int j => some (.int (f i j))
  | _, _ => none
def gIB (f : Int → Int → Bool) : D → D → Option D
  | .int i, .int j => some (.bool (f i j))
  | _, _ => none
theorem opS_I {C : Int → Int → Prop} {f : Int → Int → Int} : OpS K (rI C fun i j => .int (f i j)) (gI C f) := by
  intro H x y dx dy d Q hx hy e q
  unfold gI at e
  split at e
  · rename_i i j
    split at e
    · rename_i c
      cases e
      cases dp_int hx
      cases dp_int hy
      exact ⟨i, j, rfl, rfl, c, q _ fun _ => .int _⟩
    · cases e
  · cases e
theorem opS_I0 {f : Int → Int → Int} : OpS K (rI0 fun i j => .int (f i j)) (gI0 f) := by
  intro H x y dx dy d Q hx hy e q
  unfold gI0 at e
  split at e
  · cases e
    cases dp_int hx
    cases dp_int hy
    exact ⟨_, _, rfl, rfl, q _ fun _ => .int _⟩
  · cases e
theorem opS_IB {f : Int → Int → Bool} : OpS K (rI0 fun i j => .bl (f i j)) (gIB f) := by
  intro H x y dx dy d Q hx hy e q
  unfold gIB at e
  split at e
  · cases e
    cases dp_int hx
    cases dp_int hy
    exact ⟨_, _, rfl, rfl, q _ fun _ => .bl _⟩
  · cases e
def gSub := gI0 fun i j => i - j
def gMul := gI (fun i j => CMul i j ∨ CMulW i j) fun i j => i * j
def gDiv := gI CDivW fun i j => i / j
def gMod := gI (fun _ j => 0 < j) fun i j => i % j
def gPow := gI CPow fun i j => i ^ j.toNat
def gLt := gIB fun i j => decide (i < j)
def gLe := gIB fun i j => decide (i ≤ j)
def gGt := gIB fun i j => decide (j < i)
def gGe := gIB fun i j => decide (j ≤ i)
@[simp] theorem gSub_int (i j : Int) : gSub (.int i) (.int j) = some (.int (i - j)) := rfl
theorem gMul_int {i j : Int} (h : CMulW i j) : gMul (.int i) (.int j) = some (.int (i * j)) := if_pos (.inr h)
theorem gMul_by {i j : Int} (h1 : -(2 ^ 64) < j) (h2 : j < 2 ^ 64) : gMul (.int i) (.int j) = some (.int (i * j)) := if_pos (.inl (.inr ⟨h1, h2⟩))
theorem gDiv_int {i j : Int} (h : CDivW i j) : gDiv (.int i) (.int j) = some (.int (i / j)) := if_pos h
theorem gMod_int {i j : Int} (h : 0 < j) : gMod (.int i) (.int j) = some (.int (i % j)) := if_pos h
theorem gPow_int {i j : Int} (h : CPow i j) : gPow (.int i) (.int j) = some (.int (i ^ j.toNat)) := if_pos h
@[simp] theorem gLt_int (i j : Int) : gLt (.int i) (.int j) = some (.bool (decide (i < j))) := rfl
@[simp] theorem gLe_int (i j : Int) : gLe (.int i) (.int j) = some (.bool (decide (i ≤ j))) := rfl
@[simp] theorem gGt_int (i j : Int) : gGt (.int i) (.int j) = some (.bool (decide (j < i))) := rfl
@[simp] theorem gGe_int (i j : Int) : gGe (.int i) (.int j) = some (.bool (decide (j ≤ i))) := rfl
end

section
variable {X : Cx} {W : WX} {e a b : Expr} {es : List Expr} {pos : Pos} {f g : Ev → R D}
theorem df_sub (ha : DV X W a f) (hb : DV X W b g) : DF X W (.BinOp a .Sub b pos) (eBin gSub f g) := df_bin op_sub opS_I0 ha hb
theorem op_mulV : OpR X (binaryOp .Mult) (rI (fun i j => CMul i j ∨ CMulW i j) fun i j => .int (i * j)) := by
  intro pins s σ H x y v u Q I rx ry h
  obtain ⟨i, j, e1, e2, c, q⟩ := h
  rcases c with c | c
  · exact op_mul pins s σ H x y v u Q I rx ry ⟨i, j, e1, e2, c, q⟩
  · exact op_mulW pins s σ H x y v u Q I rx ry ⟨i, j, e1, e2, c, q⟩
theorem df_mul (ha : DV X W a f) (hb : DV X W b g) : DF X W (.BinOp a .Mult b pos) (eBin gMul f g) := df_bin op_mulV opS_I ha hb
theorem df_div (ha : DV X W a f) (hb : DV X W b g) : DF X W (.BinOp a .FloorDiv b pos) (eBin gDiv f g) := df_bin op_fdivW opS_I ha hb
theorem df_mod (ha : DV X W a f) (hb : DV X W b g) : DF X W (.BinOp a .Mod b pos) (eBin gMod f g) := df_bin op_mod opS_I ha hb
theorem df_pow (ha : DV X W a f) (hb : DV X W b g) : DF X W (.BinOp a .Pow b pos) (eBin gPow f g) := df_bin op_pow opS_I ha hb
theorem df_lt (ha : DV X W a f) (hb : DV X W b g) : DF X W (.Compare a [.Lt] [b] pos) (eBin gLt f g) := df_cmp op_lt opS_IB ha hb
theorem dt_lt (ha : DV X W a f) (hb : DV X W b g) : DT X W (.Compare a [.Lt] [b] pos) (eB (eBin gLt f g) asB) := dt_cmp op_lt opS_IB ha hb
theorem dt_gt (ha : DV X W a f) (hb : DV X W b g) : DT X W (.Compare a [.Gt] [b] pos) (eB (eBin gGt f g) asB) := dt_cmp op_gt opS_IB ha hb
def gNeg : D → R D
  | .int i => .ok (.int (-i))
  | _ => .no
theorem df_neg (ha : DV X W a f) : DF X W (.UnaryOp .USub a pos) (eB f gNeg) := by
  obtain ⟨t, p, s⟩ := ha
  refine ⟨_, pe_un un_neg p, fun F H σ env fp Q sat hp => ?_⟩
  refine s.go sat hp fun d v F1 H1 sat1 q _ h1 => ?_
  cases d with
  | int i => cases dp_int q; exact ⟨i, rfl, h1 _ F1 H1 (.refl sat1.fh) (.int _)⟩
  | _ => exact h1.elim

def scalD : D → Bool
  | .none => true
  | .bool _ => true
  | .int _ => true
  | .str _ => true
  | _ => false
/-- a bool beside an int is left to the deep rule -/
def scal2 : D → D → Bool
  | .bool _, .int _ => false
  | .int _, .bool _ => false
  | a, b => scalD a && scalD b
def eqOk (a b : D) : Bool := a.canLay0 && b.canLay0 && decide (a.depth ≤ 130)
def gEq (a b : D) : Option D := if (scal2 a b || eqOk a b) = true then some (.bool (PyData.eqv a b)) else none
def gNe (a b : D) : Option D := if (scal2 a b || eqOk a b) = true then some (.bool (!PyData.eqv a b)) else none
def rEqA (K : Kw) (neg : Bool) : R2 := fun x y H Q => ∃ d e, Dp K H x d ∧ Dp K H y e ∧ eqOk d e = true ∧ Q (.bl (if neg then !PyData.eqv d e else PyData.eqv d e)) H
theorem eqOk_cases {a b : D} (h : eqOk a b = true) : a.canLay0 = true ∧ b.canLay0 = true ∧ a.depth ≤ 130 := by
  unfold eqOk at h
  simp only [Bool.and_eq_true, decide_eq_true_eq] at h
  exact ⟨h.1.1, h.1.2, h.2⟩
theorem op_eqA (hu : X.A.units + 140 < cLine) : OpR X (compareOp .Eq) (rEqA X.KK false) := by
  intro pins s σ H x y v u Q I rx ry h
  obtain ⟨d, e, hd, he, sd, q⟩ := h
  obtain ⟨as, r1⟩ := L2.Dp.reads I d x v (Dp.kit _ _ hd (eqOk_cases sd).1) rx
  obtain ⟨bs, r2⟩ := L2.Dp.reads I e y u (Dp.kit _ _ he (eqOk_cases sd).2.1) ry
  obtain ⟨c1, c2, c3⟩ := eqOk_cases sd
  exact SeqAt.compareEq_reads r1 r2 c1 c2 (by have := Nat.min_le_left d.depth e.depth; omega) ⟨.bl _, H, I, rfl, q⟩
theorem op_neA (hu : X.A.units + 140 < cLine) : OpR X (compareOp .NotEq) (rEqA X.KK true) := by
  intro pins s σ H x y v u Q I rx ry h
  obtain ⟨d, e, hd, he, sd, q⟩ := h
  obtain ⟨as, r1⟩ := L2.Dp.reads I d x v (Dp.kit _ _ hd (eqOk_cases sd).1) rx
  obtain ⟨bs, r2⟩ := L2.Dp.reads I e y u (Dp.kit _ _ he (eqOk_cases sd).2.1) ry
  obtain ⟨c1, c2, c3⟩ := eqOk_cases sd
  exact SeqAt.compareNe_reads r1 r2 c1 c2 (by have := Nat.min_le_left d.depth e.depth; omega) ⟨.bl _, H, I, rfl, q⟩
theorem scal_dp {K : Kw} {H : Hp} {x y : V} {a b : D} (ha : Dp K H x a) (hb : Dp K H y b) (h : scal2 a b = true) : scal x y = true ∧ decide (x = y) = PyData.eqv a b := by
  cases a <;> cases b <;> first
    | (cases h; done)
    | (cases ha; cases hb; refine ⟨rfl, ?_⟩; simp [PyData.eqv]; try rfl)
    | (cases ha; cases hb; refine ⟨rfl, ?_⟩; simp [PyData.eqv, dec_int, dec_bl, dec_str])
theorem opS_eq {K : Kw} : OpS K (fun x y H Q => rEq x y H Q ∨ rEqA K false x y H Q) gEq := by
  intro H x y dx dy d Q hx hy e q
  unfold gEq at e
  split at e
  · rename_i c
    cases e
    cases c1 : scal2 dx dy with
    | true =>
      obtain ⟨h1, h2⟩ := scal_dp hx hy c1
      exact .inl ⟨h1, by rw [h2]; exact q _ fun _ => .bl _⟩
    | false =>
      rw [c1, Bool.false_or] at c
      exact .inr ⟨dx, dy, hx, hy, c, q _ fun _ => .bl _⟩
  · cases e
theorem opS_ne {K : Kw} : OpS K (fun x y H Q => rNe x y H Q ∨ rEqA K true x y H Q) gNe := by
  intro H x y dx dy d Q hx hy e q
  unfold gNe at e
  split at e
  · rename_i c
    cases e
    cases c1 : scal2 dx dy with
    | true =>
      obtain ⟨h1, h2⟩ := scal_dp hx hy c1
      exact .inl ⟨h1, by rw [h2]; exact q _ fun _ => .bl _⟩
    | false =>
      rw [c1, Bool.false_or] at c
      exact .inr ⟨dx, dy, hx, hy, c, q _ fun _ => .bl _⟩
  · cases e
theorem df_eq (hu : X.A.units + 140 < cLine) (ha : DV X W a f) (hb : DV X W b g) : DF X W (.Compare a [.Eq] [b] pos) (eBin gEq f g) := df_cmp (OpR.or op_eq (op_eqA hu)) opS_eq ha hb
theorem dt_eq (hu : X.A.units + 140 < cLine) (ha : DV X W a f) (hb : DV X W b g) : DT X W (.Compare a [.Eq] [b] pos) (eB (eBin gEq f g) asB) := dt_cmp (OpR.or op_eq (op_eqA hu)) opS_eq ha hb
theorem dt_ne (hu : X.A.units + 140 < cLine) (ha : DV X W a f) (hb : DV X W b g) : DT X W (.Compare a [.NotEq] [b] pos) (eB (eBin gNe f g) asB) := dt_cmp (OpR.or op_ne (op_neA hu)) opS_ne ha hb
def isNone : D → Bool
  | .none => true
  | _ => false
def gIsN : D → D → Option D
  | x, .none => some (.bool (isNone x))
  | _, _ => none
def gNotN : D → D → Option D
  | x, .none => some (.bool (!isNone x))
  | _, _ => none
@[simp] theorem gIsN_none (x : D) : gIsN x .none = some (.bool (isNone x)) := by cases x <;> rfl
@[simp] theorem gNotN_none (x : D) : gNotN x .none = some (.bool (!isNone x)) := by cases x <;> rfl
def gAdd : D → D → Option Ow
  | .int i, .int j => some (.d (.int (i + j)))
  | .str x, .str y => if x.length + y.length ≤ sizeLine then some (.d (.str (x ++ y))) else none
  | .tuple xs, .tuple ys => if xs.length + ys.length ≤ sizeLine then some (.d (.tuple (xs ++ ys))) else none
  | .list xs, .list ys => if xs.length + ys.length ≤ sizeLine then some (.l ((xs ++ ys).map Ow.d)) else none
  | _, _ => none
@[simp] theorem gAdd_int (i j : Int) : gAdd (.int i) (.int j) = some (.d (.int (i + j))) := rfl
theorem gAdd_str {x y : Str} (h : x.length + y.length ≤ sizeLine) : gAdd (.str x) (.str y) = some (.d (.str (x ++ y))) := if_pos h
theorem gAdd_tup {xs ys : List D} (h : xs.length + ys.length ≤ sizeLine) : gAdd (.tuple xs) (.tuple ys) = some (.d (.tuple (xs ++ ys))) := if_pos h
theorem gAdd_lst {xs ys : List D} (h : xs.length + ys.length ≤ sizeLine) : gAdd (.list xs) (.list ys) = some (.l ((xs ++ ys).map Ow.d)) := if_pos h
def rCatL (K : Kw) : R2 := fun x y H Q => ∃ a b xs ys, x = .ref a ∧ y = .ref b ∧ SqL K H a xs ∧ SqL K H b ys ∧ xs.length + ys.length ≤ sizeLine ∧ ∀ p, H p = none → Q (.ref p) (upd H p (.lst (xs ++ ys)))
theorem op_catL : OpR X (binaryOp .Add) (rCatL X.KK) := by
  intro pins s σ H x y v u Q I rx ry h
  obtain ⟨l, b, xs, zs, rfl, rfl, hH, hB, hz, q⟩ := h
  cases rx
  cases ry
  obtain ⟨its, r, pl, hl⟩ := I.list hH
  obtain ⟨its2, r2, pl2, hl2⟩ := I.list hB
  obtain ⟨⟨c1, d1, t1, s1⟩, g1, k1, n1, m1⟩ := pl.isList
  obtain ⟨⟨c2, d2, t2, s2⟩, g2, k2, n2, m2⟩ := pl2.isList
  simp only at k1 m1 k2 m2
  subst k1 m1 k2 m2
  refine PySem.concat_meets ⟨_, g1, rfl⟩ ⟨_, g2, rfl⟩ PySem.noFill_list_add PySem.seq_list_add PySem.F.slot_list_add PySem.F.entry_list_add (PySem.F.args_list_add_2 _ _)
    (PyProof.Rows.list_addW l b its.toArray its2.toArray n1 n2 d1 d2 s1 s2 (by rw [List.size_toArray, List.size_toArray, ← r.length, ← r2.length]; exact hz)) ⟨g1, g2, ?_⟩
  have ea : its.toArray ++ its2.toArray = (its ++ its2).toArray := by simp
  rw [ea]
  exact ⟨.ref _, _, I.lnew (t' := s.toks) (r.append r2) (by rw [List.length_append]; omega), rfl, q _ I.fresh⟩
abbrev rAddAll (K : Kw) : R2 := fun x y H Q => rI0 (fun i j => .int (i + j)) x y H Q ∨ (fun x y H Q => (∃ i j, x = V.str i ∧ y = V.str j ∧ i.length + j.length ≤ sizeLine ∧ Q (.str (i ++ j)) H) ∨ (fun x y H Q => rCatA K x y H Q ∨ rCatL K x y H Q) x y H Q) x y H Q
theorem op_addAll : OpR X (binaryOp .Add) (rAddAll X.KK) := OpR.or op_add (OpR.or op_add_str (OpR.or op_catA op_catL))
def eBinO (g : D → D → Option Ow) (f h : Ev → R D) (env : Ev) : R Ow := (f env).bind fun x => (h env).bind fun y => R.of (g x y)
/-- two operands with frozen items, a new value -/
def OpG (K : Kw) (r : R2) (g : D → D → Option Ow) : Prop := ∀ F H x y dx dy o Q, Same F H → PSq K H dx x F H → PSq K H dy y F H → g dx dy = some o → (∀ v F' H', Ext F H F' H' → POw K H o v F' H' → Q v H') → r x y H Q
theorem opG_sm {r : R2} {g : D → D → Option Ow} (hs : OpG X.KK r g) {ta tb : TE} {f h : Ev → R D} (sa : Sm X W (PSq X.KK) ta f) (sb : Sm X W (PSq X.KK) tb h) : Sm X W (POw X.KK) (tOp r ta tb) (eBinO g f h) := by
  intro F H σ env fp Q sat hp
  refine sa.go sat hp fun d v F1 H1 sat1 q _ h1 => ?_
  refine sb.go sat1 h1 fun d' v' F2 H2 sat2 q' x2 h2 => ?_
  obtain ⟨z, hz, h3⟩ := post_of h2
  exact hs F2 H2 v v' d d' z Q sat2.fh (q.ext x2) q' hz h3
theorem de_bin {op : Operator} {r : R2} {g : D → D → Option Ow} (ho : OpR X (binaryOp op) r) (hs : OpG X.KK r g) {f h : Ev → R D} (ha : DL X W a f) (hb : DL X W b h) : DE X W (.BinOp a op b pos) (eBinO g f h) := by
  obtain ⟨ta, pa, sa⟩ := ha
  obtain ⟨tb, pb, sb⟩ := hb
  exact ⟨_, pe_op ho pa pb, opG_sm hs sa sb⟩
theorem own_d {K : Kw} {H0 F H : Hp} {v : V} {d : D} (h : Dp K F v d) : POw K H0 (.d d) v F H := ⟨[], .d h, List.nodup_nil, fun _ z => nomatch z⟩
theorem own_l {K : Kw} {F H : Hp} {p : Addr} {vs : List V} {ds : List D} (s : Same F H) (hp : H p = none) (h : DpAll K F vs ds) : POw K H (.l (ds.map Ow.d)) (.ref p) F (upd H p (.lst vs)) :=
  ⟨[p], .l (free_of s hp) upd_same (OwnAll.of_dp h), by simp, by simpa using hp⟩
theorem opG_add {K : Kw} : OpG K (rAddAll K) gAdd := by
  intro F H x y dx dy o Q s hx hy e q
  unfold gAdd at e
  split at e
  · cases e
    cases dp_int hx
    cases dp_int hy
    exact .inl ⟨_, _, rfl, rfl, q _ _ _ (.refl s) (own_d (.int _))⟩
  · split at e
    · cases e
      cases dp_str hx
      cases dp_str hy
      exact .inr (.inl ⟨_, _, rfl, rfl, ‹_›, q _ _ _ (.refl s) (own_d (.str _))⟩)
    · cases e
  · split at e
    · rename_i xs ys c
      cases e
      obtain ⟨a, vs, rfl, h1, h2⟩ := dp_tup hx
      obtain ⟨b, ws, rfl, g1, g2⟩ := dp_tup hy
      refine .inr (.inr (.inl ⟨a, b, vs, ws, rfl, rfl, SqT_mono s h1, SqT_mono s g1, by rw [DpAll.len h2, DpAll.len g2]; exact c, fun e0 => ?_, fun n0 e0 => ?_, fun n0 n1 p hp => ?_⟩))
      · have l := DpAll.len h2
        rw [e0] at l
        have z : xs = [] := List.length_eq_zero_iff.mp l.symm
        subst z
        exact q _ _ _ (.refl s) (own_d hy)
      · have l := DpAll.len g2
        rw [e0] at l
        have z : ys = [] := List.length_eq_zero_iff.mp l.symm
        subst z
        rw [List.append_nil] at q
        exact q _ _ _ (.refl s) (own_d hx)
      · have x := Ext.frz s hp (.tup (vs ++ ws))
        exact q _ _ _ x (own_d (.tup (SqT.of upd_same) (dpaUp (DpAll.append h2 g2) x.ff)))
    · cases e
  · split at e
    · rename_i xs ys c
      cases e
      obtain ⟨a, vs, rfl, h1, h2⟩ := hx
      obtain ⟨b, ws, rfl, g1, g2⟩ := hy
      refine .inr (.inr (.inr ⟨a, b, vs, ws, rfl, rfl, h1, g1, by rw [DpAll.len h2, DpAll.len g2]; exact c, fun p hp => ?_⟩))
      exact q _ _ _ (Ext.own s hp _) (own_l s hp (DpAll.append h2 g2))
    · cases e
  · cases e
theorem de_add (ha : DL X W a f) (hb : DL X W b g) : DE X W (.BinOp a .Add b pos) (eBinO gAdd f g) := de_bin op_addAll opG_add ha hb
end
end Mir
end
set_option Elab.async false
set_option linter.all false
set_option maxRecDepth 100000
set_option maxHeartbeats 4000000
noncomputable section
namespace Mir
open PySem PySem.Spec L2

section
variable {X : Cx} {W : WX} {e a b : Expr} {es : List Expr} {pos : Pos} {f g : Ev → R D}
theorem atI_dp {K : Kw} {F : Hp} {vs : List V} {ds : List D} {i : Int} {d : D} (h : DpAll K F vs ds) (e : atI ds i = some d) : ∃ v, atI vs i = some v ∧ Dp K F v d := by
  unfold atI at e ⊢
  rw [DpAll.len h]
  cases q : ixN ds.length i with
  | none => rw [q] at e; cases e
  | some j =>
    rw [q] at e
    exact DpAll.get h e
def gIx : D → D → Option D
  | .list ds, .int i => atI ds i
  | .tuple ds, .int i => atI ds i
  | .str z, .int i => if z.length ≤ sizeLine then (atI z.cps.toList i).map fun c => .str ⟨#[c]⟩ else none
  | _, _ => none
@[simp] theorem gIx_list (ds : List D) (i : Int) : gIx (.list ds) (.int i) = atI ds i := rfl
@[simp] theorem gIx_tup (ds : List D) (i : Int) : gIx (.tuple ds) (.int i) = atI ds i := rfl
theorem df_ix (ha : DL X W a f) (hb : DV X W b g) (hs : PlainIx b := by exact fun _ _ => rfl) : DF X W (.Subscript a b pos) (eBin gIx f g) := by
  obtain ⟨ta, pa, sa⟩ := ha
  obtain ⟨tb, pb, sb⟩ := hb
  refine ⟨_, pe_ix ix_seq pa pb hs, fun F H σ env fp Q sat hp => ?_⟩
  refine sa.go sat hp fun d v F1 H1 sat1 q _ h1 => ?_
  refine sb.go sat1 h1 fun d' v' F2 H2 sat2 q' x2 h2 => ?_
  obtain ⟨z, hz, h3⟩ := post_of h2
  unfold gIx at hz
  split at hz
  · rename_i ds i
    cases dp_int q'
    obtain ⟨p, vs, rfl, p1, p2⟩ := q
    obtain ⟨w, w1, w2⟩ := atI_dp p2 hz
    exact .inl ⟨p, vs, i, w, rfl, rfl, x2.hh.seq p1, w1, h3 _ _ _ (.refl sat2.fh) (dpUp w2 x2.ff)⟩
  · rename_i ds i
    cases dp_int q'
    obtain ⟨p, vs, rfl, p1, p2⟩ := dp_tup q
    obtain ⟨w, w1, w2⟩ := atI_dp p2 hz
    exact .inr (.inl ⟨p, vs, i, w, rfl, rfl, SqT_mono (x2.ff.trans sat2.fh) p1, w1, h3 _ _ _ (.refl sat2.fh) (dpUp w2 x2.ff)⟩)
  · split at hz
    · rename_i zz i c
      cases dp_int q'
      cases dp_str q
      obtain ⟨cc, c1, c2⟩ := Option.map_eq_some_iff.mp hz
      subst c2
      exact .inr (.inr ⟨_, _, cc, rfl, rfl, c, c1, h3 _ _ _ (.refl sat2.fh) (.str _)⟩)
    · cases hz
  · cases hz
/-- a slice's part -/
def DO (X : Cx) (W : WX) (e : Option Expr) (f : Ev → R (Option Int)) : Prop := ∃ t, PO X e t ∧ Sm X W (fun _ a v _ _ => v = a) t f
instance : Anti (fun (_ : Hp) (a v : Option Int) (_ _ : Hp) => v = a) := ⟨fun _ h => h⟩
def oNone (_ : Ev) : R (Option Int) := .ok none
def asI : D → R (Option Int)
  | .int i => .ok (some i)
  | _ => .no
@[simp] theorem asI_int (i : Int) : asI (.int i) = .ok (some i) := rfl
theorem do_none : DO X W none oNone := ⟨_, po_none, fun F H σ env fp Q sat hp => hp none F H (.refl sat.fh) rfl⟩
theorem do_some (h : DV X W e f) : DO X W (some e) (eB f asI) := by
  obtain ⟨t, p, s⟩ := h
  refine ⟨_, po_some p, fun F H σ env fp Q sat hp => ?_⟩
  refine s.go sat hp fun d v F1 H1 sat1 q _ h1 => ?_
  cases d with
  | int i => cases dp_int q; exact ⟨i, rfl, h1 _ F1 H1 (.refl sat1.fh) rfl⟩
  | _ => exact h1.elim
def cutL {α : Type} (xs : List α) (lo hi : Option Int) : List α := (xs.drop (HT.sIx xs.length 0 lo)).take (HT.sIx xs.length xs.length hi - HT.sIx xs.length 0 lo)
theorem cutL_dp {K : Kw} {F : Hp} {vs : List V} {ds : List D} {lo hi : Option Int} (h : DpAll K F vs ds) : DpAll K F (cutV vs lo hi) (cutL ds lo hi) := by
  unfold cutV cutL
  rw [DpAll.len h]
  exact DpAll.take _ (DpAll.drop _ h)
def gSl : D → Option Int → Option Int → Option Ow
  | .list ds, lo, hi => some (.l ((cutL ds lo hi).map Ow.d))
  | .tuple ds, lo, hi => some (.d (.tuple (cutL ds lo hi)))
  | .str z, lo, hi => if z.length ≤ sizeLine then some (.d (.str (cutS z lo hi))) else none
  | _, _, _ => none
@[simp] theorem gSl_list (ds : List D) (lo hi : Option Int) : gSl (.list ds) lo hi = some (.l ((cutL ds lo hi).map Ow.d)) := rfl
@[simp] theorem gSl_tup (ds : List D) (lo hi : Option Int) : gSl (.tuple ds) lo hi = some (.d (.tuple (cutL ds lo hi))) := rfl
def eSl (f : Ev → R D) (l h : Ev → R (Option Int)) (env : Ev) : R Ow := (f env).bind fun x => (l env).bind fun i => (h env).bind fun j => R.of (gSl x i j)
theorem de_slice {lo hi : Option Expr} {l h : Ev → R (Option Int)} {p2 : Pos} (ha : DL X W a f) (hl : DO X W lo l) (hh : DO X W hi h) : DE X W (.Subscript a (.Slice lo hi none p2) pos) (eSl f l h) := by
  obtain ⟨ta, pa, sa⟩ := ha
  obtain ⟨tl, pl, sl⟩ := hl
  obtain ⟨th, ph, sh⟩ := hh
  refine ⟨_, pe_slice (SlR.or sl_list (SlR.or sl_tupA sl_str)) pa pl ph, fun F H σ env fp Q sat hp => ?_⟩
  refine sa.go sat hp fun d v F1 H1 sat1 q _ h1 => ?_
  refine sl.go sat1 h1 fun i i' F2 H2 sat2 q' x2 h2 => ?_
  obtain rfl : i' = i := q'
  refine sh.go sat2 h2 fun j j' F3 H3 sat3 q' x3 h3 => ?_
  obtain rfl : j' = j := q'
  obtain ⟨z, hz, h4⟩ := post_of h3
  have x := x2.trans x3
  unfold gSl at hz
  split at hz
  · cases hz
    obtain ⟨p, vs, rfl, p1, p2⟩ := q
    refine .inl ⟨p, vs, rfl, x.hh.seq p1, fun r hr => ?_⟩
    exact h4 _ _ _ (Ext.own sat3.fh hr _) (own_l sat3.fh hr (cutL_dp (dpaUp p2 x.ff)))
  · cases hz
    obtain ⟨p, vs, rfl, p1, p2⟩ := dp_tup q
    have p3 := DpAll.len p2
    refine .inr (.inl ⟨p, vs, rfl, SqT_mono (x.ff.trans sat3.fh) p1, fun c => ?_, fun _ r hr => ?_⟩)
    · refine h4 _ _ _ (.refl sat3.fh) (own_d ?_)
      rename_i ds
      have e : cutL ds i' j' = ds := by
        unfold cutL
        rw [← p3, c.1, c.2, List.drop_zero, Nat.sub_zero, p3, List.take_length]
      rw [e]
      exact dpUp q x.ff
    · have y := Ext.frz sat3.fh hr (.tup (cutV vs i' j'))
      exact h4 _ _ _ y (own_d (.tup (SqT.of upd_same) (cutL_dp (dpaUp p2 (x.ff.trans y.ff)))))
  · split at hz
    · cases hz
      cases dp_str q
      exact .inr (.inr ⟨_, rfl, ‹_›, h4 _ _ _ (.refl sat3.fh) (own_d (.str _))⟩)
    · cases hz
  · cases hz

inductive PSqs (K : Kw) (F H : Hp) : List D → List V → Prop
  | nil : PSqs K F H [] []
  | cons {d : D} {ds : List D} {v : V} {vs : List V} : PSq K H d v F H → PSqs K F H ds vs → PSqs K F H (d :: ds) (v :: vs)
def PAl (K : Kw) (_ : Hp) (ds : List D) (vs : List V) (F' H' : Hp) : Prop := PSqs K F' H' ds vs
instance {K : Kw} : Anti (PAl K) := ⟨fun _ h => h⟩
def DAl (X : Cx) (W : WX) (es : List Expr) (f : Ev → R (List D)) : Prop := ∃ t, PA X es t ∧ Sm X W (PAl X.KK) t f
theorem dal_nil : DAl X W [] aNil := ⟨_, pa_nil, fun F H σ env fp Q sat h => h _ F H (.refl sat.fh) .nil⟩
theorem dal_cons {f : Ev → R D} {g : Ev → R (List D)} (hf : DL X W e f) (hg : DAl X W es g) (hs : starEach (e :: es) X.env = (false, eval e X.env) :: starEach es X.env := by rfl) : DAl X W (e :: es) (aCons f g) := by
  obtain ⟨t, p, s⟩ := hf
  obtain ⟨t', p', s'⟩ := hg
  refine ⟨_, pa_cons p p' hs, fun F H σ env fp Q sat h => ?_⟩
  refine s.go sat h fun d v F1 H1 sat1 q _ h1 => ?_
  refine s'.go sat1 h1 fun ds vs F2 H2 sat2 q' x2 h2 => ?_
  exact h2 _ F2 H2 (.refl sat2.fh) (.cons (q.ext x2) q')
def CaG (K : Kw) (r : List V → Hp → VK → Prop) (g : List D → Option Ow) : Prop := ∀ F H vs ds o Q, Same F H → PSqs K F H ds vs → g ds = some o → (∀ v F' H', Ext F H F' H' → POw K H o v F' H' → Q v H') → r vs H Q
def eCa (g : List D → Option Ow) (f : Ev → R (List D)) (env : Ev) : R Ow := (f env).bind fun ds => R.of (g ds)
theorem ca_sm {r : List V → Hp → VK → Prop} {g : List D → Option Ow} {t : TA} {f : Ev → R (List D)} (hs : CaG X.KK r g) (s : Sm X W (PAl X.KK) t f) : Sm X W (POw X.KK) (tCB r t) (eCa g f) := by
  intro F H σ env fp Q sat hp
  refine s.go sat hp fun ds vs F1 H1 sat1 q _ h1 => ?_
  obtain ⟨z, hz, h2⟩ := post_of h1
  exact hs F1 H1 vs ds z Q sat1.fh q hz h2
theorem de_callB {id : String} {r : List V → Hp → VK → Prop} {g : List D → Option Ow} {x : Str} {p : Pos} {f : Ev → R (List D)} (hc : CallR X (.builtin id) r) (hs : CaG X.KK r g) (hg : Gl X x) (hm : X.mg x = none) (hv : bootBuiltins x = some (.builtin id)) (ha : DAl X W (e :: es) f)
    (hn : x ≠ "__name__" := by decide) (hdb : (x == ("__debug__" : Str)) = false := by decide)
    (he : starEach (e :: es) X.env = (false, eval e X.env) :: starEach es X.env := by rfl) (hpl : (backTo pos (starEach es X.env)).any (·.1) = false := by rfl) : DE X W (.Call (.Name x p) (e :: es) [] pos) (eCa g f) := by
  obtain ⟨t, pa, s⟩ := ha
  exact ⟨_, pe_callB hc hg hm hv pa hn hdb he hpl, ca_sm hs s⟩
theorem de_callTy {T : String} {r : List V → Hp → VK → Prop} {g : List D → Option Ow} {x : Str} {p : Pos} {f : Ev → R (List D)} (hc : CallR X (.type T) r) (hs : CaG X.KK r g) (hg : Gl X x) (hm : X.mg x = none) (hv : bootBuiltins x = some (.type T)) (ha : DAl X W (e :: es) f)
    (hn : x ≠ "__name__" := by decide) (hdb : (x == ("__debug__" : Str)) = false := by decide)
    (he : starEach (e :: es) X.env = (false, eval e X.env) :: starEach es X.env := by rfl) (hpl : (backTo pos (starEach es X.env)).any (·.1) = false := by rfl) : DE X W (.Call (.Name x p) (e :: es) [] pos) (eCa g f) := by
  obtain ⟨t, pa, s⟩ := ha
  exact ⟨_, pe_callTy hc hg hm hv pa hn hdb he hpl, ca_sm hs s⟩
theorem psqs1 {K : Kw} {F H : Hp} {d : D} {vs : List V} (h : PSqs K F H [d] vs) : ∃ v, vs = [v] ∧ PSq K H d v F H := by
  cases h with | cons a b => cases b; exact ⟨_, rfl, a⟩
def gLen : List D → Option Ow
  | [.list ds] => some (.d (.int ds.length))
  | [.tuple ds] => some (.d (.int ds.length))
  | [.str z] => if z.length ≤ sizeLine then some (.d (.int z.length)) else none
  | _ => none
@[simp] theorem gLen_list (ds : List D) : gLen [.list ds] = some (.d (.int ds.length)) := rfl
@[simp] theorem gLen_tup (ds : List D) : gLen [.tuple ds] = some (.d (.int ds.length)) := rfl
theorem caG_len {K : Kw} : CaG K (fun xs H Q => ∃ x n, xs = [x] ∧ LenV K x H n ∧ Q (.int n) H) gLen := by
  intro F H vs ds o Q s h e q
  unfold gLen at e
  split at e
  · cases e
    obtain ⟨v, rfl, p, ws, rfl, p1, p2⟩ := psqs1 h
    exact ⟨_, _, rfl, .inl ⟨ws, p1, (DpAll.len p2).symm⟩, q _ _ _ (.refl s) (own_d (.int _))⟩
  · cases e
    obtain ⟨v, rfl, w⟩ := psqs1 h
    obtain ⟨p, ws, rfl, p1, p2⟩ := dp_tup w
    exact ⟨_, _, rfl, .inr ⟨ws, SqT_mono s p1, (DpAll.len p2).symm⟩, q _ _ _ (.refl s) (own_d (.int _))⟩
  · split at e
    · rename_i c
      cases e
      obtain ⟨v, rfl, w⟩ := psqs1 h
      cases dp_str w
      exact ⟨_, _, rfl, ⟨c, rfl⟩, q _ _ _ (.refl s) (own_d (.int _))⟩
    · cases e
  · cases e
def gMax2 : List D → Option Ow
  | [.int i, .int j] => some (.d (.int (if j > i then j else i)))
  | _ => none
def gMin2 : List D → Option Ow
  | [.int i, .int j] => some (.d (.int (if j < i then j else i)))
  | _ => none
@[simp] theorem gMax2_int (i j : Int) : gMax2 [.int i, .int j] = some (.d (.int (if j > i then j else i))) := rfl
@[simp] theorem gMin2_int (i j : Int) : gMin2 [.int i, .int j] = some (.d (.int (if j < i then j else i))) := rfl
def intsD : List D → Option (List Int)
  | [] => some []
  | .int i :: ds => (intsD ds).map fun is => i :: is
  | _ :: _ => none
@[simp] theorem intsD_map : ∀ ns : List Int, intsD (ns.map PyData.int) = some ns
  | [] => rfl
  | n :: ns => by simp [intsD, intsD_map ns]
theorem intsD_eq : ∀ {ds : List D} {ns : List Int}, intsD ds = some ns → ds = ns.map PyData.int
  | [], ns, h => by cases h; rfl
  | d :: ds, ns, h => by
    unfold intsD at h
    split at h
    · rename_i e; cases e
    · rename_i e
      cases e
      obtain ⟨is, h1, h2⟩ := Option.map_eq_some_iff.mp h
      subst h2
      rw [intsD_eq h1]; rfl
    · cases h
theorem PSq.ints {K : Kw} {F H H0 : Hp} {v : V} {ns : List Int} (h : PSq K H0 (.list (ns.map PyData.int)) v F H) : ∃ a, v = .ref a ∧ SqL K H a (ns.map V.int) := by
  obtain ⟨a, vs, rfl, h1, h2⟩ := h
  rw [DpAll.ints _ h2] at h1
  exact ⟨a, rfl, h1⟩
def gSum : List D → Option Ow
  | [.list ds] => (intsD ds).map fun ns => .d (.int ns.sum)
  | _ => none
theorem caG_sum {K : Kw} : CaG K (rSum K) gSum := by
  intro F H vs ds o Q s h e q
  unfold gSum at e
  split at e
  · obtain ⟨ns, e2, rfl⟩ := Option.map_eq_some_iff.mp e
    rw [intsD_eq e2] at h
    obtain ⟨v, rfl, w⟩ := psqs1 h
    obtain ⟨a, rfl, h1⟩ := w.ints
    exact ⟨a, ns, rfl, h1, q _ _ _ (.refl s) (own_d (.int _))⟩
  · cases e
def gList : List D → Option Ow
  | [.list ds] => some (.l (ds.map Ow.d))
  | [.tuple ds] => some (.l (ds.map Ow.d))
  | _ => none
@[simp] theorem gList_list (ds : List D) : gList [.list ds] = some (.l (ds.map Ow.d)) := rfl
@[simp] theorem gList_tup (ds : List D) : gList [.tuple ds] = some (.l (ds.map Ow.d)) := rfl
theorem caG_list {K : Kw} : CaG K (fun xs H Q => ∃ p ys, xs = [.ref p] ∧ (SqL K H p ys ∨ SqT K H p ys) ∧ ∀ l, H l = none → Q (.ref l) (upd H l (.lst ys))) gList := by
  intro F H vs ds o Q s h e q
  unfold gList at e
  split at e
  · cases e
    obtain ⟨v, rfl, p, ws, rfl, p1, p2⟩ := psqs1 h
    exact ⟨p, ws, rfl, .inl p1, fun l hl => q _ _ _ (Ext.own s hl _) (own_l s hl p2)⟩
  · cases e
    obtain ⟨v, rfl, w⟩ := psqs1 h
    obtain ⟨p, ws, rfl, p1, p2⟩ := dp_tup w
    exact ⟨p, ws, rfl, .inr (SqT_mono s p1), fun l hl => q _ _ _ (Ext.own s hl _) (own_l s hl p2)⟩
  · cases e
def gTuple : List D → Option Ow
  | [.list ds] => some (.d (.tuple ds))
  | [.tuple ds] => some (.d (.tuple ds))
  | _ => none
@[simp] theorem gTuple_list (ds : List D) : gTuple [.list ds] = some (.d (.tuple ds)) := rfl
@[simp] theorem gTuple_tup (ds : List D) : gTuple [.tuple ds] = some (.d (.tuple ds)) := rfl
theorem caG_tuple {K : Kw} : CaG K (fun xs H Q => ∃ p ys, xs = [.ref p] ∧ ((SqL K H p ys ∧ ∀ l, H l = none → Q (.ref l) (upd H l (.tup ys))) ∨ (SqT K H p ys ∧ Q (.ref p) H))) gTuple := by
  intro F H vs ds o Q s h e q
  unfold gTuple at e
  split at e
  · cases e
    obtain ⟨v, rfl, p, ws, rfl, p1, p2⟩ := psqs1 h
    refine ⟨p, ws, rfl, .inl ⟨p1, fun l hl => ?_⟩⟩
    have y := Ext.frz s hl (.tup ws)
    exact q _ _ _ y (own_d (.tup (SqT.of upd_same) (dpaUp p2 y.ff)))
  · cases e
    obtain ⟨v, rfl, w⟩ := psqs1 h
    obtain ⟨p, ws, rfl, p1, p2⟩ := dp_tup w
    exact ⟨p, ws, rfl, .inr ⟨SqT_mono s p1, q _ _ _ (.refl s) (own_d (.tup p1 p2))⟩⟩
  · cases e
def gInt : List D → Option Ow
  | [.int i] => some (.d (.int i))
  | [.bool b] => some (.d (.int (if b then 1 else 0)))
  | [.str z] => if z.length ≤ 640 then (PySem.intText? z).map fun n => .d (.int n) else none
  | _ => none
@[simp] theorem gInt_int (i : Int) : gInt [.int i] = some (.d (.int i)) := rfl
@[simp] theorem gInt_bool (b : Bool) : gInt [.bool b] = some (.d (.int (if b then 1 else 0))) := rfl
theorem caG_int {K : Kw} : CaG K (fun xs H Q => ((∃ i, xs = [.int i] ∧ Q (.int i) H) ∨ ∃ k, xs = [.bl k] ∧ Q (.int (if k then 1 else 0)) H) ∨ ∃ a n, xs = [.str a] ∧ PySem.intText? a = some n ∧ a.length ≤ 640 ∧ Q (.int n) H) gInt := by
  intro F H vs ds o Q s h e q
  unfold gInt at e
  split at e
  · cases e
    obtain ⟨v, rfl, w⟩ := psqs1 h
    cases dp_int w
    exact .inl (.inl ⟨_, rfl, q _ _ _ (.refl s) (own_d (.int _))⟩)
  · cases e
    obtain ⟨v, rfl, w⟩ := psqs1 h
    cases dp_bool w
    exact .inl (.inr ⟨_, rfl, q _ _ _ (.refl s) (own_d (.int _))⟩)
  · split at e
    · obtain ⟨n, e2, rfl⟩ := Option.map_eq_some_iff.mp e
      obtain ⟨v, rfl, w⟩ := psqs1 h
      cases dp_str w
      exact .inr ⟨_, n, rfl, e2, ‹_›, q _ _ _ (.refl s) (own_d (.int _))⟩
    · cases e
  · cases e
theorem de_len {x : Expr} {p : Pos} {f : Ev → R (List D)} (hg : Gl X "len") (hm : X.mg "len" = none) (ha : DAl X W [x] f) (hpl : starEach [x] X.env = (false, eval x X.env) :: starEach [] X.env := by rfl) : DE X W (.Call (.Name "len" p) [x] [] pos) (eCa gLen f) :=
  de_callB call_len caG_len hg hm PySem.boot_len ha (he := hpl)
theorem de_sum {x : Expr} {p : Pos} {f : Ev → R (List D)} (hc : X.calm = true) (hg : Gl X "sum") (hm : X.mg "sum" = none) (ha : DAl X W [x] f) (he : starEach [x] X.env = (false, eval x X.env) :: starEach [] X.env := by rfl) : DE X W (.Call (.Name "sum" p) [x] [] pos) (eCa gSum f) :=
  de_callB (cr_sum hc) caG_sum hg hm (by decide +kernel) ha (he := he)
theorem de_list {x : Expr} {p : Pos} {f : Ev → R (List D)} (hg : Gl X "list") (hm : X.mg "list" = none) (ha : DAl X W [x] f) (he : starEach [x] X.env = (false, eval x X.env) :: starEach [] X.env := by rfl) : DE X W (.Call (.Name "list" p) [x] [] pos) (eCa gList f) :=
  de_callTy call_list_of caG_list hg hm (by decide +kernel) ha (he := he)
theorem de_tuple {x : Expr} {p : Pos} {f : Ev → R (List D)} (hg : Gl X "tuple") (hm : X.mg "tuple" = none) (ha : DAl X W [x] f) (he : starEach [x] X.env = (false, eval x X.env) :: starEach [] X.env := by rfl) : DE X W (.Call (.Name "tuple" p) [x] [] pos) (eCa gTuple f) :=
  de_callTy call_tuple_of caG_tuple hg hm (by decide +kernel) ha (he := he)
theorem de_int {x : Expr} {p : Pos} {f : Ev → R (List D)} (hg : Gl X "int") (hm : X.mg "int" = none) (ha : DAl X W [x] f) (he : starEach [x] X.env = (false, eval x X.env) :: starEach [] X.env := by rfl) : DE X W (.Call (.Name "int" p) [x] [] pos) (eCa gInt f) :=
  de_callTy (CallR.or call_int1 call_int_str) caG_int hg hm (by decide +kernel) ha (he := he)
def dTy : D → String
  | .none => "NoneType"
  | .bool _ => "bool"
  | .int _ => "int"
  | .str _ => "str"
  | .list _ => "list"
  | .tuple _ => "tuple"
  | .dict _ => "dict"
theorem sqL_ty {K : Kw} {H : Hp} {a : Addr} {xs : List V} (h : SqL K H a xs) : TyX K H (.ref a) (.type "list") := by
  rcases h with (h | ⟨o, h⟩) | ⟨o, its, n, hk, hc, _⟩
  · exact .base (.lst h)
  · exact .base (.frz h)
  · exact .kList hk hc
theorem sqT_ty {K : Kw} {H : Hp} {a : Addr} {xs : List V} (h : SqT K H a xs) : TyX K H (.ref a) (.type "tuple") := by
  rcases h with (h | ⟨o, h⟩) | ⟨o, its, n, hk, hc, _⟩
  · exact .base (.tup h)
  · exact .fTuple h
  · exact .kTuple hk hc
def isDct : D → Bool
  | .dict _ => true
  | _ => false
theorem dp_ty {K : Kw} {H : Hp} {v : V} {d : D} (h : Dp K H v d) (nd : isDct d = false) : TyX K H v (.type (dTy d)) := by
  cases h with
  | non => exact .base .non
  | bl b => exact .base (.bl b)
  | int i => exact .base (.int i)
  | str i => exact .base (.str i)
  | lst a b => exact sqL_ty a
  | tup a b => exact sqT_ty a
  | _ => cases nd
def gIsi (T : String) (d : D) : R D := if isDct d = true then .no else match kitB (dTy d) T with
  | some b => .ok (.bool b)
  | none => .no
theorem df_isi {T : String} {y : Str} {p p2 : Pos} (ha : DV X W a f) (hg : Gl X "isinstance") (hm : X.mg "isinstance" = none) (gT : Gl X y) (mT : X.mg y = none) (bT : bootBuiltins y = some (.type T))
    (he : starEach [a, .Name y p2] X.env = (false, eval a X.env) :: starEach [.Name y p2] X.env := by rfl) (he2 : starEach [.Name y p2] X.env = (false, eval (.Name y p2) X.env) :: starEach [] X.env := by rfl) (hpl : (backTo pos (starEach [.Name y p2] X.env)).any (·.1) = false := by rfl)
    (hn : y ≠ "__name__" := by decide) (hd : (y == ("__debug__" : Str)) = false := by decide) : DF X W (.Call (.Name "isinstance" p) [a, .Name y p2] [] pos) (eB f (gIsi T)) := by
  obtain ⟨t, pa, s⟩ := ha
  refine ⟨_, pe_callB call_isi hg hm (by decide +kernel) (pa_cons pa (pa_cons (pe_bltn (v := .ty T) gT mT bT rfl hn hd) pa_nil he2) he) (he := he) (hpl := hpl), fun F H σ env fp Q sat hp => ?_⟩
  refine s.go sat hp fun d v F1 H1 sat1 q _ h1 => ?_
  unfold gIsi at h1
  cases nd : isDct d with
  | true => rw [nd] at h1; exact h1.elim
  | false =>
  rw [nd] at h1
  simp only [Bool.false_eq_true, if_false] at h1
  split at h1
  · rename_i b hb
    exact ⟨v, .ty T, _, _, b, rfl, .ty T, dp_ty q nd, hb, h1 _ F1 H1 (.refl sat1.fh) (.bl _)⟩
  · exact h1.elim
end
end Mir
end
set_option Elab.async false
set_option linter.all false
set_option maxRecDepth 100000
set_option maxHeartbeats 4000000
noncomputable section
namespace Mir
open PySem PySem.Spec L2

def ItP (t : Bool) (h : Heap) (it a : Addr) (i : Nat) : Prop := match t with
  | true => h.IsTupleIter it a i
  | false => h.IsListIter it a i
def CoP (t : Bool) (h : Heap) (a : Addr) (its : Array Value) : Prop := match t with
  | true => h.IsTuple a its
  | false => h.IsList a its
def Sqq (t : Bool) (K : PySem.W.Frag) (H : Hp) (a : Addr) (vs : List V) : Prop := match t with
  | true => SqT K H a vs
  | false => SqL K H a vs
theorem Sqq.mono {t : Bool} {K : PySem.W.Frag} {H H' : Hp} {a : Addr} {vs : List V} (s : Same H H') (h : Sqq t K H a vs) : Sqq t K H' a vs := by
  cases t with
  | true => exact SqT_mono s h
  | false => exact s.seq h
section
variable {X : Cx} {pins : List (Addr × Obj)} {σ : L2.St} {H : Hp} {s : Shared} {a : Addr} {xs ys : List V} {t : Bool}
theorem Sqq.at (I : Inv X pins σ H s) (h : Sqq t X.K H a xs) : ∃ its : List Value, Vals xs its ∧ CoP t s.heap a its.toArray := by
  cases t with
  | true =>
    obtain ⟨its, r, p, _⟩ := I.tuple h
    exact ⟨its, r, p⟩
  | false =>
    obtain ⟨its, r, p, _⟩ := I.list h
    exact ⟨its, r, p.isList⟩
theorem Sqq.inj (I : Inv X pins σ H s) (h : Sqq t X.K H a xs) (h' : Sqq t X.K H a ys) : xs = ys := by
  cases t with
  | true => exact I.tuple_inj h h'
  | false => exact I.list_inj h h'
end
theorem it_obj {t : Bool} {h : Heap} {it a : Addr} {i : Nat} (p : ItP t h it a i) : ∃ o, h.get? it = some o ∧ ∀ v, o.data ≠ .cell v := by
  cases t with
  | true => obtain ⟨o, e, _, d⟩ := p; exact ⟨o, e, fun v z => by rw [d] at z; cases z⟩
  | false => obtain ⟨o, e, _, d⟩ := p; exact ⟨o, e, fun v z => by rw [d] at z; cases z⟩
theorem ItP.at {t : Bool} {h h' : Heap} {it a : Addr} {i : Nat} (p : ItP t h it a i) (k : ∀ o, h.get? it = some o → h'.get? it = some o) : ItP t h' it a i := by
  cases t with
  | true => obtain ⟨o, e, q⟩ := p; exact ⟨o, k o e, q⟩
  | false => obtain ⟨o, e, q⟩ := p; exact ⟨o, k o e, q⟩
theorem drawsP {P : Program} {w : World} {A : Around} (hh : A.handled = none) (t : Bool) {it a : Addr} (hne : a ≠ it) (its : Array Value) :
    Draws P w A it [it, a] its.size (fun i v => its[i]? = some v) (fun i h => ItP t h it a i ∧ CoP t h a its) := by
  cases t with
  | true => exact Draws.tuple hh it a hne its
  | false => exact Draws.list hh it a hne its
def objP (t : Bool) (a : Addr) : Obj := match t with
  | true => { cls := .type "tuple_iterator", data := .fields #[.ref a, .int 0 0] }
  | false => { cls := .type "list_iterator", data := .fields #[.ref a, .int 0 0] }
theorem beginsP (t : Bool) (a : Addr) (its : Array Value) : Begins (.ref a) (objP t a) (fun h => CoP t h a its) := by
  cases t with
  | true => exact begins_tuple a its
  | false => exact begins_list a its
theorem itP_new {t : Bool} {h : Heap} {it a : Addr} (e : h.get? it = some (objP t a)) : ItP t h it a 0 := by
  cases t with
  | true => exact ⟨_, e, rfl, rfl⟩
  | false => exact ⟨_, e, rfl, rfl⟩

end Mir
end
set_option Elab.async false
set_option linter.all false
set_option maxRecDepth 100000
set_option maxHeartbeats 4000000
noncomputable section
namespace Mir
open PySem PySem.Spec L2

theorem fp_ne {X : Cx} {pins : List (Addr × Obj)} {σ : L2.St} {H : Hp} {s : Shared} {t : Bool} {a b : Addr} {xs : List V} (I : Inv X pins σ H s) (hf : FpOk X pins H b) (hq : Sqq t X.K H a xs) : a ≠ b := by
  rintro rfl
  have kk : ∀ o, X.K.lookup a = some o → False := fun o e => by
    have e1 := I.mod.kin a o e
    obtain ⟨_, _, _, q, _, _⟩ := hf
    rcases q with q | q
    · exact I.ok.noex a o e1 q
    · exact absurd (Nat.lt_of_lt_of_le (Heap.lt_size e1) (Nat.le_trans I.ok.bsz q)) (Nat.lt_irrefl _)
  cases t with
  | true =>
    rcases hq with (h | ⟨o, h⟩) | ⟨o, its, n, h, _⟩
    · rw [hf.1] at h; cases h
    · rw [hf.1] at h; cases h
    · exact kk o h
  | false =>
    rcases hq with (h | ⟨o, h⟩) | ⟨o, its, n, h, _⟩
    · rw [hf.1] at h; cases h
    · rw [hf.1] at h; cases h
    · exact kk o h

def Jzp (t u : Bool) (K : PySem.W.Frag) (a b : Addr) : It :=
  ⟨fun i H => ∃ xs ys x y, Sqq t K H a xs ∧ Sqq u K H b ys ∧ xs[i]? = some x ∧ ys[i]? = some y,
    fun i H v H' => ∃ T x y, v = .ref T ∧ H T = none ∧ H' = upd H T (.tup [x, y]) ∧ (∀ xs, Sqq t K H a xs → xs[i]? = some x) ∧ ∀ ys, Sqq u K H b ys → ys[i]? = some y,
    fun i H => ∃ xs ys, Sqq t K H a xs ∧ Sqq u K H b ys ∧ min xs.length ys.length = i⟩
theorem turn_zp {P : Program} {w : World} {K : PySem.W.Frag} {elts : List Expr} {kk : Nat} {tpos : Pos} (t u : Bool) (a b z TI TO i1 i2 : Addr) (nd : [z, TI, TO, i1, i2].Nodup) :
    Turn P w K (.Tuple elts kk tpos) (Jzp t u K a b) [z, TI, TO, i1, i2] z (fun i h => IsZip h z TI TO .none ∧ IsTupOf2 h TI (.ref i1) (.ref i2) ∧ (∃ a1 a2, IsTupOf2 h TO a1 a2) ∧ ItP t h i1 a i ∧ ItP u h i2 b i) := by
  have sep : a ∉ [z, TI, TO, i1, i2] → b ∉ [z, TI, TO, i1, i2] → ZipSep2 z TI TO i1 i2 [i1, a] [i2, b] := fun ha hb => by
    simp only [List.nodup_cons, List.mem_cons, List.not_mem_nil, or_false, not_or, List.nodup_nil, and_true, not_false_eq_true] at nd ha hb
    obtain ⟨⟨n1, n2, n3, n4⟩, ⟨n5, n6, n7⟩, ⟨n8, n9⟩, n10⟩ := nd
    obtain ⟨a1, a2, a3, a4, a5⟩ := ha
    obtain ⟨b1, b2, b3, b4, b5⟩ := hb
    refine ⟨Ne.symm n1, Ne.symm n2, n5, n6, by simp, ?_, ?_, n7, by simp, ?_, ?_, ?_, ?_⟩ <;> simp only [List.mem_cons, List.not_mem_nil, or_false, not_or]
    · exact ⟨n3, Ne.symm a1⟩
    · exact ⟨n8, Ne.symm a3⟩
    · exact ⟨n4, Ne.symm b1⟩
    · exact ⟨n9, Ne.symm b3⟩
    · exact ⟨n10, Ne.symm b4⟩
    · exact ⟨Ne.symm n10, Ne.symm a5⟩
  have live : ∀ {i : Nat} {h : Heap}, (IsZip h z TI TO .none ∧ IsTupOf2 h TI (.ref i1) (.ref i2) ∧ (∃ a1 a2, IsTupOf2 h TO a1 a2) ∧ ItP t h i1 a i ∧ ItP u h i2 b i) → ∀ c ∈ [z, TI, TO, i1, i2], ∃ o, h.get? c = some o ∧ ∀ v, o.data ≠ .cell v := fun st c hc => by
    obtain ⟨h1, h2, ⟨x1, x2, h3⟩, h4, h5⟩ := st
    simp only [List.mem_cons, List.not_mem_nil, or_false] at hc
    rcases hc with rfl | rfl | rfl | rfl | rfl
    · exact ⟨_, h1, fun v q => nomatch q⟩
    · exact ⟨_, h2, fun v q => nomatch q⟩
    · exact ⟨_, h3, fun v q => nomatch q⟩
    · exact it_obj h4
    · exact it_obj h5
  have wrs : ∀ c ∈ [z, TO, i1, i2], c ∈ [z, TI, TO, i1, i2] := fun c hc => by
    simp only [List.mem_cons, List.not_mem_nil, or_false] at hc ⊢
    rcases hc with rfl | rfl | rfl | rfl <;> simp
  refine ⟨by simp, fun i h st => live st, fun i h h' st k => ?_, ?_, ?_, fun A i s Q E st h => wpAny_pyIter_zip st.1 h⟩
  · obtain ⟨h1, h2, ⟨x1, x2, h3⟩, h4, h5⟩ := st
    exact ⟨k z (by simp) _ h1, k TI (by simp) _ h2, ⟨x1, x2, k TO (by simp) _ h3⟩, h4.at fun o q => k i1 (by simp) o q, h5.at fun o q => k i2 (by simp) o q⟩
  · intro X hP hw hK hc i pins s σ H E I hf st hg
    subst hP hw hK
    have hst := live st
    obtain ⟨h1, h2, h3, h4, h5⟩ := st
    obtain ⟨xs, ys, x, y, hq, hr, hx, hy⟩ := hg
    obtain ⟨its, rv, hco⟩ := hq.at I
    obtain ⟨jts, rw', hco'⟩ := hr.at I
    obtain ⟨u1, hu, ru⟩ := rv.get hx
    obtain ⟨u2, hu', ru'⟩ := rw'.get hy
    have S := sep (fun z => fp_ne I (hf a z) hq rfl) (fun z => fp_ne I (hf b z) hr rfl)
    have n1 : i < its.toArray.size := by rw [List.size_toArray]; exact (List.getElem?_eq_some_iff.mp hu).1
    have n2 : i < jts.toArray.size := by rw [List.size_toArray]; exact (List.getElem?_eq_some_iff.mp hu').1
    refine (GoesN.zip2 (prog := X.prog) (w := X.w) (elts := elts) (x1 := kk) (pos := tpos) S (drawsP (A := X.A.in1) (I.ok.hd hc) t (fp_ne I (hf i1 (by simp)) hq) its.toArray) (drawsP (A := X.A.in1) (I.ok.hd hc) u (fp_ne I (hf i2 (by simp)) hr) jts.toArray)).goes i s _ _ (by omega) ⟨h1, h2, h3, ⟨h4, hco⟩, h5, hco'⟩
      fun v h' tk ⟨T, p, q, ev, hT, hp, hq', hTup⟩ st' hk _ => ?_
    subst ev
    have e1 : p = u1 := by
      have hp' : its[i]? = some p := by simpa using hp
      rw [hu] at hp'
      exact (Option.some.inj hp').symm
    have e2 : q = u2 := by
      have hp' : jts[i]? = some q := by simpa using hq'
      rw [hu'] at hp'
      exact (Option.some.inj hp').symm
    subst e1 e2
    have new : ObjOk X.prog X.w (upd H T (.tup [x, y])) h' T (.tup [x, y]) := ⟨by show 2 ≤ sizeLine; decide, [p, q], .cons ru (.cons ru' .nil), hTup⟩
    refine ⟨.ref T, _, I.turnedNew (ch := [z, TI, TO, i1, i2]) (fun b o hb e => hk b o (fun m => hb (wrs b m)) e) hf hT new, rfl, ⟨T, x, y, rfl, I.hok.fresh hT, rfl, fun zs hz => by rw [hz.inj I hq]; exact hx, fun zs hz => by rw [hz.inj I hr]; exact hy⟩,
      ⟨st'.1, st'.2.1, st'.2.2.1, st'.2.2.2.1.1, st'.2.2.2.2.1⟩, fun c hc => ?_⟩
    obtain ⟨o, g, _⟩ := hst c hc
    rw [upd_ne (Nat.ne_of_lt (Nat.lt_of_lt_of_le (Heap.lt_size g) hT))]
    exact (hf c hc).1
  · intro X hP hw hK hc i pins s σ H E I hf st hg
    subst hP hw hK
    obtain ⟨h1, h2, h3, h4, h5⟩ := st
    obtain ⟨xs, ys, hq, hr, hl⟩ := hg
    obtain ⟨its, rv, hco⟩ := hq.at I
    obtain ⟨jts, rw', hco'⟩ := hr.at I
    have S := sep (fun z => fp_ne I (hf a z) hq rfl) (fun z => fp_ne I (hf b z) hr rfl)
    have hs : i = min its.toArray.size jts.toArray.size := by rw [List.size_toArray, List.size_toArray, ← rv.length, ← rw'.length]; exact hl.symm
    subst hs
    exact (GoesN.zip2 (prog := X.prog) (w := X.w) (elts := elts) (x1 := kk) (pos := tpos) S (drawsP (A := X.A.in1) (I.ok.hd hc) t (fp_ne I (hf i1 (by simp)) hq) its.toArray) (drawsP (A := X.A.in1) (I.ok.hd hc) u (fp_ne I (hf i2 (by simp)) hr) jts.toArray)).stops s _ _ ⟨h1, h2, h3, ⟨h4, hco⟩, h5, hco'⟩
      fun h' tk hk _ => I.turnedL (ch := [z, TI, TO, i1, i2]) (fun b o hb e => hk b o (fun m => hb (wrs b m)) e) hf
def iZp (K : PySem.W.Frag) (ta : TA) : TI := fun σ H R => ta σ H fun vs H1 => ∃ t u a b xs ys, vs = [.ref a, .ref b] ∧ Sqq t K H1 a xs ∧ Sqq u K H1 b ys ∧ R (Jzp t u K a b) H1
theorem pi_zp {X : Cx} {e e2 : Expr} {ta : TA} {p pos tpos : Pos} {elts : List Expr} {kk : Nat} (hg : Gl X "zip") (hm : X.mg "zip" = none) (ha : PA X [e, e2] ta) (hs : starEach [e, e2] X.env = (false, eval e X.env) :: starEach [e2] X.env := by rfl)
    (hpl : (backTo pos (starEach [e2] X.env)).any (·.1) = false := by rfl) : PI X (.Tuple elts kk tpos) (.Call (.Name "zip" p) [e, e2] [] pos) (iZp X.K ta) := by
  refine ⟨fun pins s σ H R I h => ?_⟩
  refine PyProof.Rows.Call_ (ld_blt I hg hm PyProof.Rows.boot_zip (PyProof.Rows.callWith_type1 (thn (ha.run pos pins s σ H _ I h) fun us s1 ⟨vs, H1, I1, r1, t, u, a, b, xs, ys, ex, hq, hr, q⟩ => ?_) hs hpl))
  subst ex
  cases r1 with
  | cons r rr =>
    cases rr with
    | cons r' rr =>
      cases rr
      cases r
      cases r'
      obtain ⟨its, rv, hco⟩ := hq.at I1
      obtain ⟨jts, rw', hco'⟩ := hr.at I1
      refine zip_begins2 (beginsP t a its.toArray) (beginsP u b jts.toArray) hco hco' fun h' hz hTI hTO g1 g2 _ hk => wpAny_pyIter_zip hz ?_
      have I2 : Inv X pins σ H1 { s1 with heap := h' } := I1.kept (t' := s1.toks) hk
      have le5 : ∀ c ∈ [s1.heap.objs.size + 4, s1.heap.objs.size + 2, s1.heap.objs.size + 3, s1.heap.objs.size, s1.heap.objs.size + 1], s1.heap.objs.size ≤ c := fun c hc => by
        simp only [List.mem_cons, List.not_mem_nil, or_false] at hc
        rcases hc with z | z | z | z | z <;> (rw [z]; first | exact Nat.le_refl _ | exact Nat.le_add_right _ _)
      have nd5 : ∀ n : Nat, [n + 4, n + 2, n + 3, n, n + 1].Nodup := fun n => by
        simp only [List.nodup_cons, List.mem_cons, List.not_mem_nil, or_false, not_or, List.nodup_nil, and_true, not_false_eq_true]
        omega
      exact ⟨_, _, _, _, H1, rfl, I2, turn_zp t u a b _ _ _ _ _ (nd5 s1.heap.objs.size), ⟨hz, hTI, ⟨_, _, hTO⟩, itP_new g1, itP_new g2⟩, fun c hc => I1.fpOk (le5 c hc) (I1.hok.fresh (le5 c hc)), q⟩
end Mir
end
set_option Elab.async false
set_option linter.all false
set_option maxRecDepth 100000
set_option maxHeartbeats 4000000
noncomputable section
namespace Mir
open PySem PySem.Spec L2

structure WalkF (K : Kw) (J : It) (F0 : Hp) (items : List D) : Prop where
  go : ∀ i F H, i < items.length → Same F0 F → Same F H → J.go i H
  yld : ∀ i F H x H', i < items.length → Same F0 F → Same F H → J.yld i H x H' → ∃ d F', items[i]? = some d ∧ Ext F H F' H' ∧ Dp K F' x d
  stop : ∀ F H, Same F0 F → Same F H → J.stop items.length H
def PIt (K : Kw) (_ : Hp) (items : List D) (J : It) (F' _ : Hp) : Prop := WalkF K J F' items
instance {K : Kw} : Anti (PIt K) := ⟨fun _ h => h⟩
def DI (X : Cx) (W : WX) (tg e : Expr) (f : Ev → R (List D)) : Prop := ∃ wi, PI X tg e wi ∧ Sm X W (PIt X.KK) wi f
section
variable {K : Kw} {F0 : Hp} {a b : Addr} {vs ws : List V} {ds es : List D}
theorem walkF_l (h1 : SqL K F0 a vs) (h2 : DpAll K F0 vs ds) : WalkF K (Itl K a) F0 ds where
  go := fun i F H hi s1 s2 => by
    rw [← DpAll.len h2] at hi
    exact ⟨vs, vs[i], (s1.trans s2).seq h1, by simp [hi]⟩
  yld := fun i F H x H' hi s1 s2 ⟨e, q⟩ => by
    subst e
    obtain ⟨d, e1, e2⟩ := DpAll.getV h2 (q vs ((s1.trans s2).seq h1))
    exact ⟨d, F, e1, .refl s2, dpUp e2 s1⟩
  stop := fun F H s1 s2 => ⟨vs, (s1.trans s2).seq h1, by rw [DpAll.len h2]; exact Nat.le_refl _⟩
theorem walkF_t (h1 : SqT K F0 a vs) (h2 : DpAll K F0 vs ds) : WalkF K (Itt K a) F0 ds where
  go := fun i F H hi s1 s2 => by
    rw [← DpAll.len h2] at hi
    exact ⟨vs, vs[i], SqT_mono (s1.trans s2) h1, by simp [hi]⟩
  yld := fun i F H x H' hi s1 s2 ⟨e, q⟩ => by
    subst e
    obtain ⟨d, e1, e2⟩ := DpAll.getV h2 (q vs (SqT_mono (s1.trans s2) h1))
    exact ⟨d, F, e1, .refl s2, dpUp e2 s1⟩
  stop := fun F H s1 s2 => ⟨vs, SqT_mono (s1.trans s2) h1, by rw [DpAll.len h2]; exact Nat.le_refl _⟩
def charsD (z : Str) : List D := z.cps.toList.map fun c => .str ⟨#[c]⟩
theorem walkF_s (z : Str) : WalkF K (Its z) F0 (charsD z) where
  go := fun i F H hi s1 s2 => walk_str.goes i H (by simpa [charsD] using hi) trivial
  yld := fun i F H x H' hi s1 s2 h => by
    have hi' : i < z.cps.size := by simpa [charsD] using hi
    obtain ⟨e, c, e1, e2⟩ := walk_str.yields i H x H' hi' trivial h
    subst e e2
    exact ⟨_, F, by simp [charsD, e1], .refl s2, .str _⟩
  stop := fun F H s1 s2 => by
    have := (walk_str (z := z)).stops H trivial
    simpa [charsD] using this
def rangeD (lo : Int) (n : Nat) : List D := (List.range n).map fun i => .int (lo + (i : Nat))
theorem walkF_r (lo : Int) (n : Nat) : WalkF K (Itr lo n) F0 (rangeD lo n) where
  go := fun i F H hi s1 s2 => walk_range.goes i H (by simpa [rangeD] using hi) trivial
  yld := fun i F H x H' hi s1 s2 h => by
    have hi' : i < n := by simpa [rangeD] using hi
    obtain ⟨e, e1⟩ := walk_range.yields i H x H' hi' trivial h
    subst e e1
    exact ⟨_, F, by simp [rangeD, hi'], .refl s2, .int _⟩
  stop := fun F H s1 s2 => by
    have := (walk_range (lo := lo) (n := n)).stops H trivial
    simpa [rangeD] using this
def enumD : Nat → List D → List D
  | _, [] => []
  | n, d :: ds => .tuple [.int n, d] :: enumD (n + 1) ds
def zipD : List D → List D → List D
  | x :: xs, y :: ys => .tuple [x, y] :: zipD xs ys
  | _, _ => []
@[simp] theorem zipD_nil (ys : List D) : zipD [] ys = [] := by cases ys <;> rfl
@[simp] theorem zipD_nil2 (ys : List D) : zipD ys [] = [] := by cases ys <;> rfl
@[simp] theorem zipD_cons (x y : D) (xs ys : List D) : zipD (x :: xs) (y :: ys) = .tuple [x, y] :: zipD xs ys := rfl
theorem zipD_len : ∀ (xs ys : List D), (zipD xs ys).length = min xs.length ys.length
  | [], ys => by simp
  | x :: xs, [] => by simp
  | x :: xs, y :: ys => by simp [zipD_len xs ys]
theorem zipD_get : ∀ (i : Nat) (xs ys : List D) (x y : D), xs[i]? = some x → ys[i]? = some y → (zipD xs ys)[i]? = some (.tuple [x, y])
  | i, [], ys, x, y, h, g => by simp at h
  | i, x :: xs, [], _, y, h, g => by simp at g
  | 0, a :: xs, b :: ys, x, y, h, g => by simp at h g; subst h g; rfl
  | i + 1, a :: xs, b :: ys, x, y, h, g => by
    have := zipD_get i xs ys x y (by simpa using h) (by simpa using g)
    simpa using this
theorem walkF_zp {t u : Bool} (h1 : Sqq t K F0 a vs) (h2 : DpAll K F0 vs ds) (g1 : Sqq u K F0 b ws) (g2 : DpAll K F0 ws es) : WalkF K (Jzp t u K a b) F0 (zipD ds es) where
  go := fun i F H hi s1 s2 => by
    rw [zipD_len, ← DpAll.len h2, ← DpAll.len g2] at hi
    exact ⟨vs, ws, vs[i]'(by omega), ws[i]'(by omega), h1.mono (s1.trans s2), g1.mono (s1.trans s2), by simp, by simp⟩
  yld := fun i F H x H' hi s1 s2 ⟨T, y, z, e, hT, eH, q, q'⟩ => by
    subst e eH
    obtain ⟨d, e1, e2⟩ := DpAll.getV h2 (q vs (h1.mono (s1.trans s2)))
    obtain ⟨d', e1', e2'⟩ := DpAll.getV g2 (q' ws (g1.mono (s1.trans s2)))
    have x := Ext.frz s2 hT (.tup [y, z])
    exact ⟨_, _, zipD_get i ds es d d' e1 e1', x, .tup (SqT.of upd_same) (.cons (dpUp e2 (s1.trans x.ff)) (.cons (dpUp e2' (s1.trans x.ff)) .nil))⟩
  stop := fun F H s1 s2 => ⟨vs, ws, h1.mono (s1.trans s2), g1.mono (s1.trans s2), by rw [zipD_len, DpAll.len h2, DpAll.len g2]⟩
end
section
variable {X : Cx} {W : WX} {tg e e2 : Expr} {es : List Expr} {pos p : Pos} {f g : Ev → R D}
theorem PI.or {wi wj : TI} (h : PI X tg e wi) (h' : PI X tg e wj) : PI X tg e (fun σ H R => wi σ H R ∨ wj σ H R) := ⟨fun pins s σ H R I q => by
  rcases q with q | q
  · exact h.run pins s σ H R I q
  · exact h'.run pins s σ H R I q⟩
def itD : D → R (List D)
  | .list ds => .ok ds
  | .tuple ds => .ok ds
  | .str z => .ok (charsD z)
  | _ => .no
@[simp] theorem itD_list (ds : List D) : itD (.list ds) = .ok ds := rfl
@[simp] theorem itD_tup (ds : List D) : itD (.tuple ds) = .ok ds := rfl
@[simp] theorem itD_str (z : Str) : itD (.str z) = .ok (charsD z) := rfl
/-- go on by what the first part is -/
theorem Sm.choose {α β γ δ : Type} {P : Hp → α → β → Hp → Hp → Prop} {P2 : Hp → γ → δ → Hp → Hp → Prop} [Anti P2] {t : L2.St → Hp → (β → Hp → Prop) → Prop} {f : Ev → R α} (s : Sm X W P t f) {g : α → R γ} {F H : Hp} {σ : L2.St} {env : Ev} {fp : List Addr} {Q : δ → Hp → Prop} {G : Prop}
    (sat : Sat X.KK F H σ env fp) (h : Post X W P2 F H σ ((f env).bind g) Q) (no : (∀ T, t σ H T) → G)
    (k : ∀ a, f env = .ok a → (∀ T, (∀ v F1 H1, Sat X.KK F1 H1 σ env fp → P H a v F1 H1 → Ext F H F1 H1 → Post X W P2 F1 H1 σ (g a) Q → T v H1) → t σ H T) → G) : G := by
  cases e : f env with
  | no => rw [e] at h; exact h.elim
  | ok a =>
    refine k a e fun T hT => s F H σ env fp T sat ?_
    rw [e] at h ⊢
    exact fun v F' H' x p => hT v F' H' (sat.ext x) p x (Post.ext (show Post X W P2 F H σ (g a) Q from h) x)
  | ex c =>
    refine no fun T => s F H σ env fp T sat ?_
    rw [e] at h ⊢
    exact h
theorem di_seq (h : DF X W e f) : DI X W tg e (eB f itD) := by
  obtain ⟨t, p, s⟩ := h
  refine ⟨_, PI.or (pi_list p) (PI.or (pi_tup p) (pi_str p)), fun F H σ env fp Q sat hp => ?_⟩
  refine s.choose sat hp (fun z => .inl (z _)) fun d e k => ?_
  cases d with
  | list ds =>
    refine .inl (k _ fun v F1 H1 sat1 q _ h1 => ?_)
    obtain ⟨a, vs, rfl, q1, q2⟩ := dp_lst q
    exact ⟨a, rfl, ⟨vs, sat1.fh.seq q1⟩, h1 _ F1 H1 (.refl sat1.fh) (walkF_l q1 q2)⟩
  | tuple ds =>
    refine .inr (.inl (k _ fun v F1 H1 sat1 q _ h1 => ?_))
    obtain ⟨a, vs, rfl, q1, q2⟩ := dp_tup q
    exact ⟨a, rfl, ⟨vs, SqT_mono sat1.fh q1⟩, h1 _ F1 H1 (.refl sat1.fh) (walkF_t q1 q2)⟩
  | str z =>
    refine .inr (.inr (k _ fun v F1 H1 sat1 q _ h1 => ?_))
    cases dp_str q
    exact ⟨z, rfl, h1 _ F1 H1 (.refl sat1.fh) (walkF_s z)⟩
  | _ =>
    refine .inl (k _ fun v F1 H1 sat1 q _ h1 => h1.elim)
def rg1 : List D → R (List D)
  | [.int j] => guard (-(2 ^ 62) ≤ j ∧ j < 2 ^ 62) (.ok (rangeD 0 j.toNat))
  | _ => .no
theorem daf1 {K : Kw} {F : Hp} {d : D} {vs : List V} (h : DpAll K F vs [d]) : ∃ v, vs = [v] ∧ Dp K F v d := by
  cases h with | cons a b => cases b; exact ⟨_, rfl, a⟩
theorem daf2 {K : Kw} {F : Hp} {d d' : D} {vs : List V} (h : DpAll K F vs [d, d']) : ∃ v w, vs = [v, w] ∧ Dp K F v d ∧ Dp K F w d' := by
  cases h with | cons a b => cases b with | cons a' b' => cases b'; exact ⟨_, _, rfl, a, a'⟩
variable {fa : Ev → R (List D)}
theorem di_range1 (hg : Gl X "range") (hm : X.mg "range" = none) (h : DA X W [e] fa) (hs : starEach [e] X.env = [(false, eval e X.env)] := by rfl) : DI X W tg (.Call (.Name "range" p) [e] [] pos) (eB fa rg1) := by
  obtain ⟨t, pa, s⟩ := h
  refine ⟨_, pi_range1 hg hm pa hs, fun F H σ env fp Q sat hp => ?_⟩
  refine s.go sat hp fun ds vs F1 H1 sat1 q _ h1 => ?_
  unfold rg1 at h1
  split at h1
  · obtain ⟨c, h2⟩ := guard_post h1
    obtain ⟨v, rfl, w⟩ := daf1 q
    cases dp_int w
    exact ⟨_, rfl, c.1, c.2, h2 _ F1 H1 (.refl sat1.fh) (walkF_r _ _)⟩
  · exact h1.elim
def sqqD : D → Option (Bool × List D)
  | .list ds => some (false, ds)
  | .tuple ds => some (true, ds)
  | _ => none
theorem sqq_dp {K : Kw} {F : Hp} {v : V} {d : D} {t : Bool} {ds : List D} (h : Dp K F v d) (e : sqqD d = some (t, ds)) : ∃ a vs, v = .ref a ∧ Sqq t K F a vs ∧ DpAll K F vs ds := by
  cases d with
  | list es => cases e; exact dp_lst h
  | tuple es => cases e; exact dp_tup h
  | _ => cases e
def enArg : List D → R (List D)
  | [d] => match sqqD d with
    | some (_, ds) => .ok (enumD 0 ds)
    | none => .no
  | _ => .no
@[simp] theorem enArg_list (ds : List D) : enArg [.list ds] = .ok (enumD 0 ds) := rfl
@[simp] theorem enArg_tup (ds : List D) : enArg [.tuple ds] = .ok (enumD 0 ds) := rfl
def zpArg : List D → R (List D)
  | [d, e] => match sqqD d, sqqD e with
    | some (_, ds), some (_, es) => .ok (zipD ds es)
    | _, _ => .no
  | _ => .no
theorem di_zip {elts : List Expr} {kk : Nat} {tpos : Pos} (hg : Gl X "zip") (hm : X.mg "zip" = none) (h : DA X W [e, e2] fa) (hs : starEach [e, e2] X.env = (false, eval e X.env) :: starEach [e2] X.env := by rfl)
    (hpl : (backTo pos (starEach [e2] X.env)).any (·.1) = false := by rfl) : DI X W (.Tuple elts kk tpos) (.Call (.Name "zip" p) [e, e2] [] pos) (eB fa zpArg) := by
  obtain ⟨t, pa, s⟩ := h
  refine ⟨_, pi_zp hg hm pa hs hpl, fun F H σ env fp Q sat hp => ?_⟩
  refine s.go sat hp fun ds vs F1 H1 sat1 q _ h1 => ?_
  unfold zpArg at h1
  split at h1
  · split at h1
    · rename_i t es u gs e2 e3
      obtain ⟨v, w, rfl, w1, w2⟩ := daf2 q
      obtain ⟨a, us, rfl, q1, q2⟩ := sqq_dp w1 e2
      obtain ⟨b, us', rfl, q3, q4⟩ := sqq_dp w2 e3
      exact ⟨t, u, a, b, us, us', rfl, q1.mono sat1.fh, q3.mono sat1.fh, h1 _ F1 H1 (.refl sat1.fh) (walkF_zp q1 q2 q3 q4)⟩
    · exact h1.elim
  · exact h1.elim
end
end Mir
end
set_option Elab.async false
set_option linter.all false
set_option maxRecDepth 100000
set_option maxHeartbeats 4000000
noncomputable section
namespace Mir
open PySem PySem.Spec L2

section
variable {K : Kw} {F H : Hp} {σ : L2.St} {env : Ev} {fp : List Addr}
/-- store an own value; fx: the value's new footprint -/
theorem Sat.put (s : Sat K F H σ env fp) {i : Nat} (hi : i < env.length) {v : V} {o : Ow} {fx : List Addr} (h : OwnAt K F H v o fx) (nd : fx.Nodup) (dj : ∀ b ∈ fx, b ∉ fp) :
    ∃ fp', Sat K F H (σ.set i (some v)) (env.set i (some o)) fp' ∧ ∀ b ∈ fp', b ∈ fx ∨ b ∈ fp := by
  obtain ⟨fr, fo, a1, a2, a3, a4, a5, a6, a7⟩ := s.en.put hi s.nd
  obtain ⟨fp', b1, b2, b3⟩ := (a7 F H [] [] (StepS.of_ext (.refl s.fh) []) fun _ _ => by simp).2 v o fx h nd fun b hb z => dj b hb (a1 b z)
  exact ⟨fp', ⟨s.fh, b3, b1⟩, fun b hb => (b2 b hb).imp id (a1 b)⟩
end

def Off (ix : List Nat) (σ σ' : L2.St) : Prop := σ'.length = σ.length ∧ ∀ j, j ∉ ix → σ'[j]? = σ[j]?
theorem Off.refl (σ : L2.St) (ix : List Nat) : Off ix σ σ := ⟨rfl, fun _ _ => rfl⟩
theorem Off.trans {ix jx : List Nat} {σ σ1 σ2 : L2.St} (a : Off ix σ σ1) (b : Off jx σ1 σ2) : Off (ix ++ jx) σ σ2 :=
  ⟨b.1.trans a.1, fun j h => (b.2 j fun z => h (List.mem_append_right _ z)).trans (a.2 j fun z => h (List.mem_append_left _ z))⟩
/-- the reading of a target, by its mirror -/
def tgOf (K : Kw) (ix : List Nat) (g : D → Ev → Option Ev) : TG := fun v σ H Q => ∃ F env fp d env', Sat K F H σ env fp ∧ Dp K F v d ∧ g d env = some env' ∧ ∀ σ' fp', Sat K F H σ' env' fp' → (∀ b ∈ fp', b ∈ fp) → Off ix σ σ' → Q σ' H
def tgsOf (K : Kw) (ix : List Nat) (g : List D → Ev → Option Ev) : TGs := fun v σ H Q => ∃ F env fp d env', Sat K F H σ env fp ∧ DpAll K F v d ∧ g d env = some env' ∧ ∀ σ' fp', Sat K F H σ' env' fp' → (∀ b ∈ fp', b ∈ fp) → Off ix σ σ' → Q σ' H
def DG (X : Cx) (tg : Expr) (ix : List Nat) (g : D → Ev → Option Ev) : Prop := PG X tg (tgOf X.KK ix g)
def DGs (X : Cx) (tg : List Expr) (ix : List Nat) (g : List D → Ev → Option Ev) : Prop := PGs X tg (tgsOf X.KK ix g)
theorem PG.imp {X : Cx} {tg : Expr} {t t' : TG} (h : PG X tg t) (k : ∀ v σ H Q, t' v σ H Q → t v σ H Q) : PG X tg t' := ⟨fun pins s σ H v u Q I r q => h.run pins s σ H v u Q I r (k v σ H Q q)⟩
theorem PGs.imp {X : Cx} {tg : List Expr} {t t' : TGs} (h : PGs X tg t) (k : ∀ v σ H Q, t' v σ H Q → t v σ H Q) : PGs X tg t' := ⟨fun pins s σ H v u Q I r q => h.run pins s σ H v u Q I r (k v σ H Q q)⟩
def gtName (i : Nat) (d : D) (env : Ev) : Option Ev := if i < env.length then some (env.set i (some (.d d))) else none
def gtNil : List D → Ev → Option Ev
  | [], env => some env
  | _, _ => none
def gtCons (g : D → Ev → Option Ev) (h : List D → Ev → Option Ev) : List D → Ev → Option Ev
  | d :: ds, env => (g d env).bind (h ds)
  | _, _ => none
def gtTup (n : Nat) (h : List D → Ev → Option Ev) : D → Ev → Option Ev
  | .tuple ds, env => if ds.length = n then h ds env else none
  | _, _ => none
section
variable {X : Cx} {e : Expr} {es : List Expr} {pos : Pos}
theorem dg_name (i : Nat) {x : Str} (hN : X.N.Nodup) (hi : X.N[i]? = some x := by rfl) (hx : Loc X.env.scope x := by first | exact Or.inl rfl | exact Or.inr rfl) (hf : X.fn x = true ∨ X.env.scope.names.lookup x = some .local := by first | exact .inl rfl | exact .inr rfl | assumption) : DG X (.Name x pos) [i] (gtName i) := by
  refine PG.imp (pg_name hN hi hx hf) ?_
  rintro v σ H Q ⟨F, env, fp, d, env', sat, hd, he, q⟩
  unfold gtName at he
  split at he
  · cases he
    obtain ⟨fp', s', h'⟩ := sat.put ‹_› (OwnAt.d hd) List.nodup_nil (fun _ z => nomatch z)
    exact q _ fp' s' (fun b hb => (h' b hb).elim (fun z => nomatch z) id) ⟨by simp, fun j hj => List.getElem?_set_ne (fun z => hj (by simp [z]))⟩
  · cases he
theorem dgs_nil : DGs X [] [] gtNil := by
  refine PGs.imp pgs_nil ?_
  rintro v σ H Q ⟨F, env, fp, d, env', sat, hd, he, q⟩
  cases d with
  | nil => cases hd; cases he; exact ⟨rfl, q σ fp sat (fun _ z => z) (.refl _ _)⟩
  | cons d ds => cases he
theorem dgs_cons {ix jx : List Nat} {g : D → Ev → Option Ev} {h : List D → Ev → Option Ev} (h1 : DG X e ix g) (h2 : DGs X es jx h) (hs : (assignEach (e :: es) X.env).map (·.2) = assign e X.env :: (assignEach es X.env).map (·.2) := by rfl) : DGs X (e :: es) (ix ++ jx) (gtCons g h) := by
  refine PGs.imp (pgs_cons h1 h2 hs) ?_
  rintro v σ H Q ⟨F, env, fp, d, env', sat, hd, he, q⟩
  cases d with
  | nil => cases he
  | cons d ds =>
    cases hd with
    | cons d1 d2 =>
      cases e1 : g d env with
      | none => unfold gtCons at he; simp only at he; rw [e1] at he; cases he
      | some env1 =>
        unfold gtCons at he; simp only at he; rw [e1] at he
        refine ⟨_, _, rfl, F, env, fp, d, env1, sat, d1, e1, fun σ1 fp1 sat1 sub1 o1 => ?_⟩
        exact ⟨F, env1, fp1, ds, env', sat1, d2, he, fun σ2 fp2 sat2 sub2 o2 => q σ2 fp2 sat2 (fun b hb => sub1 b (sub2 b hb)) (o1.trans o2)⟩
theorem dg_tup {k n : Nat} {ix : List Nat} {h : List D → Ev → Option Ev} (hc : X.calm = true) (hs : DGs X es ix h) (hn : (assignEach es X.env).length = n := by rfl) (hst : (assignEach es X.env).findIdx? (·.1) = none := by rfl) : DG X (.Tuple es k pos) ix (gtTup n h) := by
  refine PG.imp (pg_tup hc hs hn hst) ?_
  rintro v σ H Q ⟨F, env, fp, d, env', sat, hd, he, q⟩
  unfold gtTup at he
  split at he
  · split at he
    · rename_i ds c
      obtain ⟨a, vs, rfl, h1, h2⟩ := dp_tup hd
      exact ⟨a, vs, rfl, SqT_mono sat.fh h1, (DpAll.len h2).trans c, F, env, fp, ds, env', sat, h2, he, q⟩
    · cases he
  · cases he
end

inductive SR where
  | no
  | nx (env : Ev)
  | rt (r : Ow) (env : Ev)
  | bk (env : Ev)
  | ct (env : Ev)
  | ex (c : Str) (env : Ev)
def SR.andThen : SR → (Ev → SR) → SR
  | .nx env, f => f env
  | r, _ => r
@[simp] theorem SR.andThen_nx (env : Ev) (f : Ev → SR) : (SR.nx env).andThen f = f env := rfl
@[simp] theorem SR.andThen_rt (r : Ow) (env : Ev) (f : Ev → SR) : (SR.rt r env).andThen f = .rt r env := rfl
@[simp] theorem SR.andThen_ex (c : Str) (env : Ev) (f : Ev → SR) : (SR.ex c env).andThen f = .ex c env := rfl
@[simp] theorem SR.andThen_bk (env : Ev) (f : Ev → SR) : (SR.bk env).andThen f = .bk env := rfl
@[simp] theorem SR.andThen_ct (env : Ev) (f : Ev → SR) : (SR.ct env).andThen f = .ct env := rfl
@[simp] theorem SR.andThen_no (f : Ev → SR) : SR.no.andThen f = .no := rfl
/-- a pure part, then a statement's outcome -/
def R.st {α : Type} (env : Ev) : R α → (α → SR) → SR
  | .no, _ => .no
  | .ok a, f => f a
  | .ex c, _ => .ex c env
@[simp] theorem R.st_ok {α : Type} (env : Ev) (a : α) (f : α → SR) : (R.ok a).st env f = f a := rfl
@[simp] theorem R.st_ex {α : Type} (env : Ev) (c : Str) (f : α → SR) : (R.ex c : R α).st env f = .ex c env := rfl
/-- S: the slots that may be stored -/
def OffS (S : Nat → Bool) (σ σ' : L2.St) : Prop := ∀ j, S j = false → σ'[j]? = σ[j]?
theorem OffS.refl (S : Nat → Bool) (σ : L2.St) : OffS S σ σ := fun _ _ => rfl
theorem OffS.trans {S : Nat → Bool} {σ σ1 σ2 : L2.St} (a : OffS S σ σ1) (b : OffS S σ1 σ2) : OffS S σ σ2 := fun j h => (b j h).trans (a j h)
theorem OffS.set {S : Nat → Bool} {σ : L2.St} {i : Nat} (h : S i = true) (x : Option V) : OffS S σ (σ.set i x) := fun j hj => List.getElem?_set_ne fun z => by rw [z, hj] at h; cases h
theorem OffS.of {S : Nat → Bool} {σ σ' : L2.St} {ix : List Nat} (h : Off ix σ σ') (k : ix.all S = true) : OffS S σ σ' := fun j hj => h.2 j fun z => by
  rw [List.all_eq_true] at k
  rw [k j z] at hj; cases hj
def PostS (X : Cx) (W : WX) (S : Nat → Bool) (σ0 : L2.St) (F H : Hp) (fp : List Addr) (D : Ends) : SR → Prop
  | .no => False
  | .nx env => ∀ σ F' H' fp', OffS S σ0 σ → StepS F H fp F' H' fp' → Sat X.KK F' H' σ env fp' → D.nx σ H'
  | .bk env => ∀ σ F' H' fp', OffS S σ0 σ → StepS F H fp F' H' fp' → Sat X.KK F' H' σ env fp' → D.bk σ H'
  | .ct env => ∀ σ F' H' fp', OffS S σ0 σ → StepS F H fp F' H' fp' → Sat X.KK F' H' σ env fp' → D.ct σ H'
  | .rt r env => ∀ v σ F' H' fx fp', OffS S σ0 σ → StepS F H fp F' H' (fx ++ fp') → Sat X.KK F' H' σ env fp' → OwnAt X.KK F' H' v r fx → (fx ++ fp').Nodup → D.rt v H'
  | .ex c env => ∀ C σ F' H' fp', X.mg c = some (.ref C) → OffS S σ0 σ → StepS F H fp F' H' fp' → Sat X.KK F' H' σ env fp' → W (.ref C) none σ H'
def SmS (X : Cx) (W : WX) (S : Nat → Bool) (t : TS) (f : Ev → SR) : Prop := ∀ F H σ env fp D, Sat X.KK F H σ env fp → PostS X W S σ F H fp D (f env) → t D σ H
def DS (X : Cx) (W : WX) (S : Nat → Bool) (st : Stmt) (f : Ev → SR) : Prop := ∃ t, PS X st t ∧ SmS X W S t f
def DSs (X : Cx) (W : WX) (S : Nat → Bool) (st : List Stmt) (f : Ev → SR) : Prop := ∃ t, PSs X st t ∧ SmS X W S t f
section
variable {X : Cx} {W : WX} {S : Nat → Bool} {σ0 σ1 : L2.St} {F H F1 H1 : Hp} {fp fp1 : List Addr} {D : Ends}
theorem PostS.step {r : SR} (h : PostS X W S σ0 F H fp D r) (o : OffS S σ0 σ1) (s : StepS F H fp F1 H1 fp1) : PostS X W S σ1 F1 H1 fp1 D r := by
  cases r with
  | no => exact h
  | nx env => exact fun σ F' H' fp' o' s' => h σ F' H' fp' (o.trans o') (s.trans s')
  | bk env => exact fun σ F' H' fp' o' s' => h σ F' H' fp' (o.trans o') (s.trans s')
  | ct env => exact fun σ F' H' fp' o' s' => h σ F' H' fp' (o.trans o') (s.trans s')
  | rt r env => exact fun v σ F' H' fx fp' o' s' => h v σ F' H' fx fp' (o.trans o') (s.trans s')
  | ex c env => exact fun C σ F' H' fp' m o' s' => h C σ F' H' fp' m (o.trans o') (s.trans s')
theorem PostS.ext {r : SR} (h : PostS X W S σ0 F H fp D r) (e : Ext F H F1 H1) : PostS X W S σ0 F1 H1 fp D r := h.step (.refl _ _) (StepS.of_ext e fp)
theorem PostS.sub {S' : Nat → Bool} {r : SR} (h : PostS X W S σ0 F H fp D r) (k : ∀ j, S j = false → S' j = false) : PostS X W S' σ0 F H fp D r := by
  have o : ∀ {σ : L2.St}, OffS S' σ0 σ → OffS S σ0 σ := fun o j hj => o j (k j hj)
  cases r with
  | no => exact h
  | nx env => exact fun σ F' H' fp' o' s' => h σ F' H' fp' (o o') s'
  | bk env => exact fun σ F' H' fp' o' s' => h σ F' H' fp' (o o') s'
  | ct env => exact fun σ F' H' fp' o' s' => h σ F' H' fp' (o o') s'
  | rt r env => exact fun v σ F' H' fx fp' o' s' => h v σ F' H' fx fp' (o o') s'
  | ex c env => exact fun C σ F' H' fp' m o' s' => h C σ F' H' fp' m (o o') s'
/-- a pure part within a statement -/
theorem Sm.st {α β : Type} {P : Hp → α → β → Hp → Hp → Prop} {t : L2.St → Hp → (β → Hp → Prop) → Prop} {f : Ev → R α} (s : Sm X W P t f) {g : α → SR} {σ : L2.St} {env : Ev} {T : β → Hp → Prop} (sat : Sat X.KK F H σ env fp)
    (h : PostS X W S σ F H fp D ((f env).st env g)) (k : ∀ a v F1 H1, Sat X.KK F1 H1 σ env fp → P H a v F1 H1 → Ext F H F1 H1 → PostS X W S σ F1 H1 fp D (g a) → T v H1) : t σ H T := by
  refine s F H σ env fp T sat ?_
  cases e : f env with
  | no => rw [e] at h; exact h
  | ok a =>
    rw [e] at h
    exact fun v F' H' x p => k a v F' H' (sat.ext x) p x (PostS.ext (show PostS X W S σ F H fp D (g a) from h) x)
  | ex c =>
    rw [e] at h
    exact fun C F' H' m x => h C σ F' H' fp m (.refl _ _) (StepS.of_ext x fp) (sat.ext x)
end
section
variable {X : Cx} {W : WX} {S : Nat → Bool} {st : Stmt} {sts : List Stmt} {e : Expr} {pos : Pos} {fs gs : Ev → SR}
def sSkip (env : Ev) : SR := .nx env
def sSeq (f g : Ev → SR) (env : Ev) : SR := (f env).andThen g
theorem dss_nil : DSs X W S [] sSkip := ⟨_, pss_nil, fun F H σ env fp D sat h => h σ F H fp (.refl _ _) (StepS.of_ext (.refl sat.fh) fp) sat⟩
theorem dss_one (h : DS X W S st fs) : DSs X W S [st] fs := by
  obtain ⟨t, p, s⟩ := h
  exact ⟨_, pss_one p, s⟩
theorem seq_sm {t u : TS} (s : SmS X W S t fs) (s' : SmS X W S u gs) : SmS X W S (tSeq t u) (sSeq fs gs) := by
  intro F H σ env fp D sat h
  refine s F H σ env fp _ sat ?_
  unfold sSeq at h
  cases e : fs env with
  | no => rw [e] at h; exact h
  | nx env1 =>
    rw [e] at h
    exact fun σ1 F1 H1 fp1 o1 st1 sat1 => s' F1 H1 σ1 env1 fp1 D sat1 (PostS.step (show PostS X W S σ F H fp D (gs env1) from h) o1 st1)
  | bk env1 => rw [e] at h; exact h
  | ct env1 => rw [e] at h; exact h
  | rt r env1 => rw [e] at h; exact h
  | ex c env1 => rw [e] at h; exact h
theorem dss_cons (h : DS X W S st fs) (h2 : DSs X W S sts gs) : DSs X W S (st :: sts) (sSeq fs gs) := by
  obtain ⟨t, p, s⟩ := h
  obtain ⟨t', p', s'⟩ := h2
  exact ⟨_, pss_cons p p', seq_sm s s'⟩
/-- name = e -/
def sSet (i : Nat) (f : Ev → R Ow) (env : Ev) : SR := (f env).st env fun r => if i < env.length then .nx (env.set i (some r)) else .no
theorem fresh_dj {K : Kw} {H F' H' : Hp} {F : Hp} {σ : L2.St} {env : Ev} {fp fx : List Addr} (sat : Sat K F H σ env fp) (n : ∀ b ∈ fx, H b = none) : ∀ b ∈ fx, b ∉ fp := fun b hb z => by
  obtain ⟨_, vs, e⟩ := sat.en.there b z
  rw [n b hb] at e
  cases e
theorem put_step {K : Kw} {F H F1 H1 : Hp} {σ : L2.St} {env : Ev} {fp fx : List Addr} {i : Nat} {v : V} {r : Ow} (sat : Sat K F H σ env fp) (x : Ext F H F1 H1) (h : OwnAt K F1 H1 v r fx) (nd : fx.Nodup) (n : ∀ b ∈ fx, H b = none) (hi : i < env.length) :
    ∃ fp', StepS F H fp F1 H1 fp' ∧ Sat K F1 H1 (σ.set i (some v)) (env.set i (some r)) fp' := by
  obtain ⟨fp', s', h'⟩ := (sat.ext x).put hi h nd (fresh_dj (F' := F) (H' := H) sat n)
  exact ⟨fp', ⟨x.ff, fun b o e _ => x.hh b o e, fun b o e => (x.fn b o e).imp id .inr, fun b hb => (h' b hb).elim (fun z => .inr (n b z)) .inl⟩, s'⟩
theorem ds_set {f : Ev → R Ow} {x : Str} {pos' : Pos} (i : Nat) (hN : X.N.Nodup) (he : DE X W e f) (hi : X.N[i]? = some x := by rfl) (hx : Loc X.env.scope x := by first | exact Or.inl rfl | exact Or.inr rfl)
    (hs : swapsWith e (some (.Name x pos')) pos.line X.env = pure false := by rfl) (hf : X.fn x = true ∨ X.env.scope.names.lookup x = some .local := by first | exact .inl rfl | exact .inr rfl | assumption) (hS : S i = true := by rfl) : DS X W S (.Assign [.Name x pos'] e pos) (sSet i f) := by
  obtain ⟨t, p, s⟩ := he
  refine ⟨_, ps_set hN hi hx p hs hf, fun F H σ env fp D sat h => ?_⟩
  refine s F H σ env fp _ sat ?_
  unfold sSet at h
  cases e : f env with
  | no => rw [e] at h; exact h
  | ex c => rw [e] at h; exact fun C F' H' m x => h C σ F' H' fp m (.refl _ _) (StepS.of_ext x fp) (sat.ext x)
  | ok r =>
    rw [e] at h
    intro v F' H' x ⟨fx, q, nd, n⟩
    have h' : PostS X W S σ F H fp D (if i < env.length then .nx (env.set i (some r)) else .no) := h
    split at h'
    · obtain ⟨fp', s1, s2⟩ := put_step sat x q nd n ‹_›
      exact h' _ F' H' fp' (.set hS _) s1 s2
    · exact h'.elim
/-- targets = e, e frozen -/
def sAsg (g : D → Ev → Option Ev) (f : Ev → R D) (env : Ev) : SR := (f env).st env fun d => match g d env with
  | some env' => .nx env'
  | none => .no
theorem ds_asg {f : Ev → R D} {g : D → Ev → Option Ev} {tg : Expr} {ix : List Nat} (he : DF X W e f) (hg : DG X tg ix g) (hs : swapsWithSole [tg] e pos.line X.env = pure false := by rfl) (hw : swappedStores [tg] e X.env = pure none := by rfl)
    (h1 : (assignEach [tg] X.env).map (·.2) = [assign tg X.env] := by rfl) (hS : ix.all S = true := by rfl) : DS X W S (.Assign [tg] e pos) (sAsg g f) := by
  obtain ⟨t, p, s⟩ := he
  refine ⟨_, ps_asg p hg hs hw h1, fun F H σ env fp D sat h => ?_⟩
  refine s.st sat h fun d v F1 H1 sat1 q _ h1 => ?_
  split at h1
  · rename_i env' e
    exact ⟨F1, env, fp, d, env', sat1, q, e, fun σ' fp' sat' sub off => h1 σ' F1 H1 fp' (.of off hS) ((StepS.of_ext (.refl sat1.fh) fp).subset sub) sat'⟩
  · exact h1.elim
/-- an expression whose value is dropped -/
def sDrop (f : Ev → R D) (env : Ev) : SR := (f env).st env fun _ => .nx env
def sRet (f : Ev → R Ow) (env : Ev) : SR := (f env).st env fun r => .rt r env
theorem ds_ret {f : Ev → R Ow} (he : DE X W e f) : DS X W S (.Return (some e) pos) (sRet f) := by
  obtain ⟨t, p, s⟩ := he
  refine ⟨_, ps_ret p, fun F H σ env fp D sat h => ?_⟩
  refine s F H σ env fp _ sat ?_
  unfold sRet at h
  cases e : f env with
  | no => rw [e] at h; exact h
  | ex c => rw [e] at h; exact fun C F' H' m x => h C σ F' H' fp m (.refl _ _) (StepS.of_ext x fp) (sat.ext x)
  | ok r =>
    rw [e] at h
    intro v F' H' x ⟨fx, q, nd, n⟩
    have dj := fresh_dj (F' := F) (H' := H) sat n
    refine h v σ F' H' fx fp (.refl _ _) ⟨x.ff, fun b o e _ => x.hh b o e, fun b o e => (x.fn b o e).imp id .inr, fun b hb => ?_⟩ (sat.ext x) q ?_
    · rcases List.mem_append.mp hb with z | z
      · exact .inr (n b z)
      · exact .inl z
    · rw [List.nodup_append]; exact ⟨nd, sat.nd, fun a ha b hb e => dj a ha (e ▸ hb)⟩
def sRetN (env : Ev) : SR := .rt (.d .none) env
/-- return x, x given away -/
def sRetV (i : Nat) (env : Ev) : SR := match env[i]? with
  | some (some o) => .rt o (env.set i none)
  | _ => .no
theorem ds_retV (i : Nat) {x : Str} {pos' : Pos} (hN : X.N[i]? = some x := by rfl) (hv : Vis X.env.scope x := by first | exact Or.inl rfl | exact Or.inr (Or.inl rfl) | exact Or.inr (Or.inr rfl)) (hd : (x == ("__debug__" : Str)) = false := by decide)
    (hcd : (x == ("__classdict__" : Str)) = false := by decide) : DS X W S (.Return (some (.Name x pos')) pos) (sRetV i) := by
  refine ⟨_, ps_ret (pe_var hN hv hd hcd), fun F H σ env fp D sat h => ?_⟩
  unfold sRetV at h
  split at h
  · rename_i o he
    have hi : i < env.length := (List.getElem?_eq_some_iff.mp he).1
    obtain ⟨fr, fo, a1, a2, a3, a3', a4, a5, a6⟩ := sat.en.put hi sat.nd
    obtain ⟨v, e1, e2⟩ := a5 o he
    have e3 := (a6 F H [] [] (StepS.of_ext (.refl sat.fh) []) fun _ _ => by simp).1 (some v)
    have es : σ.set i (some v) = σ := by
      refine List.ext_getElem? fun j => ?_
      by_cases hj : i = j
      · subst hj
        rw [List.getElem?_set_self (List.getElem?_eq_some_iff.mp e1).1]
        exact e1.symm
      · rw [List.getElem?_set_ne hj]
    rw [es] at e3
    refine ⟨v, e1, h v _ F H fo fr (.refl _ _) ((StepS.of_ext (.refl sat.fh) fp).subset fun b hb => ?_) ⟨sat.fh, e3, a3⟩ e2 ?_⟩
    · exact (List.mem_append.mp hb).elim (a2 b) (a1 b)
    · rw [List.nodup_append]; exact ⟨a3', a3, fun a ha b hb e => a4 a ha (e ▸ hb)⟩
  · exact h.elim
/-- a def's own list made data, ahead of a statement -/
def frzV (i : Nat) (env : Ev) : Ev := match env[i]? with
  | some (some o) => env.set i (some (.d (viewD o)))
  | _ => env
theorem frz_sat {K : Kw} {F H : Hp} {σ : L2.St} {env : Ev} {fp : List Addr} (i : Nat) (sat : Sat K F H σ env fp) : ∃ F' fp', StepS F H fp F' H fp' ∧ Sat K F' H σ (frzV i env) fp' := by
  unfold frzV
  split
  · rename_i o he
    have hi : i < env.length := (List.getElem?_eq_some_iff.mp he).1
    obtain ⟨fr, fo, a1, a2, a3, a3', a4, a5, a6⟩ := sat.en.put hi sat.nd
    obtain ⟨v, e1, e2⟩ := a5 o he
    have nx : ∀ b ∈ fo, F b = none := fun b hb => (OwnAt.there _ _ _ e2 b hb).1
    have st : StepS F H fo (frzAt F H fo) H [] := ⟨frzAt_same nx, fun b o e _ => e, fun b o e => (frzAt_of e).imp id .inl, fun b z => nomatch z⟩
    obtain ⟨fp', b1, b2, b3⟩ := (a6 (frzAt F H fo) H fo [] st fun b hb z => a4 b z hb).2 v _ [] (.d (OwnAt.frz nx _ _ _ e2 fun _ z => z)) List.nodup_nil (fun _ z => nomatch z)
    have es : σ.set i (some v) = σ := by
      refine List.ext_getElem? fun j => ?_
      by_cases hj : i = j
      · subst hj
        rw [List.getElem?_set_self (by rw [sat.en.len]; exact hi)]
        exact e1.symm
      · rw [List.getElem?_set_ne hj]
    rw [es] at b3
    exact ⟨_, fp', ⟨frzAt_same nx, fun b o e _ => e, fun b o e => (frzAt_of e).imp id fun z => .inl (a2 b z), fun b hb => .inl ((b2 b hb).elim (fun z => nomatch z) (a1 b))⟩, ⟨frzAt_in sat.fh, b3, b1⟩⟩
  · exact ⟨F, fp, StepS.of_ext (.refl sat.fh) fp, sat⟩
def sFrz (i : Nat) (f : Ev → SR) (env : Ev) : SR := f (frzV i env)
theorem frz_sm {t : TS} (i : Nat) (s : SmS X W S t fs) : SmS X W S t (sFrz i fs) := by
  intro F H σ env fp D sat h
  obtain ⟨F', fp', s1, s2⟩ := frz_sat i sat
  exact s F' H σ _ fp' D s2 (PostS.step h (.refl _ _) s1)
theorem ds_frz (i : Nat) (h : DS X W S st fs) : DS X W S st (sFrz i fs) := by
  obtain ⟨t, p, s⟩ := h
  exact ⟨t, p, frz_sm i s⟩
def sIf (c : Ev → R Bool) (f g : Ev → SR) (env : Ev) : SR := (c env).st env fun b => if b = true then f env else g env
theorem ds_if {c : Expr} {a b : List Stmt} {fc : Ev → R Bool} (hc : DT X W c fc) (ha : DSs X W S a fs) (hb : DSs X W S b gs) : DS X W S (.If c a b pos) (sIf fc fs gs) := by
  obtain ⟨t, p, s⟩ := hc
  obtain ⟨ta, pa, sa⟩ := ha
  obtain ⟨tb, pb, sb⟩ := hb
  refine ⟨_, ps_if p pa pb, fun F H σ env fp D sat h => ?_⟩
  refine s.st sat h fun k v F1 H1 sat1 q _ h1 => ?_
  obtain rfl : v = k := q
  cases v with
  | true => exact sa F1 H1 σ env fp D sat1 h1
  | false => exact sb F1 H1 σ env fp D sat1 h1
/-- for target in ..: body -/
def forL (g : D → Ev → Option Ev) (f : Ev → SR) : List D → Ev → SR
  | [], env => .nx env
  | d :: ds, env => match g d env with
    | none => .no
    | some env1 => match f env1 with
      | .nx env2 => forL g f ds env2
      | .ct env2 => forL g f ds env2
      | .bk env2 => .nx env2
      | .rt r env2 => .rt r env2
      | .ex c env2 => .ex c env2
      | .no => .no
def sFor (it : Ev → R (List D)) (g : D → Ev → Option Ev) (f : Ev → SR) (env : Ev) : SR := (it env).st env fun ds => forL g f ds env
theorem ds_for {tg iter : Expr} {body : List Stmt} {fi : Ev → R (List D)} {g : D → Ev → Option Ev} (hp : PassesOwn (model X.prog X.w) X.A X.env X.xe) (hc : X.calm = true) {ix : List Nat} (hi : DI X W tg iter fi) (hg : DG X tg ix g) (hb : DSs X W S body fs)
    (hs : ∀ x, foldedSetIterable iter X.env x = pure x := by intro _; rfl) (hS : ix.all S = true := by rfl) : DS X W S (.For tg iter body [] pos) (sFor fi g fs) := by
  obtain ⟨wi, pi, si⟩ := hi
  obtain ⟨tb, pb, sb⟩ := hb
  refine ⟨_, ps_for hp hc pi hg pb hs, fun F H σ env fp D sat h => ?_⟩
  refine si.st sat h fun items J F1 H1 sat1 wk _ h1 => ?_
  have wk : WalkF X.KK J F1 items := wk
  refine ⟨fun i m σ' H' => m = items.length - i ∧ i ≤ items.length ∧ ∃ F' env' fp', Same F1 F' ∧ Sat X.KK F' H' σ' env' fp' ∧ PostS X W S σ' F' H' fp' D (forL g fs (items.drop i) env'),
    ⟨items.length, by simp, Nat.zero_le _, F1, env, fp, Same.refl _, sat1, h1⟩, ?_⟩
  rintro i m σ' H' ⟨rfl, hi, F', env', fp', st, sat', h2⟩
  by_cases hlt : i < items.length
  · refine .inr ⟨wk.go i F' H' hlt st sat'.fh, fun σ2 H2 => ∃ F2 env2 fp2, Same F1 F2 ∧ Sat X.KK F2 H2 σ2 env2 fp2 ∧ PostS X W S σ2 F2 H2 fp2 D (forL g fs (items.drop (i + 1)) env2), ?_, ?_⟩
    · rintro σ2 H2 ⟨F2, env2, fp2, a, b, c⟩
      exact ⟨items.length - (i + 1), by omega, rfl, hlt, F2, env2, fp2, a, b, c⟩
    · intro x H3 y
      obtain ⟨d, F3, e1, x3, dp⟩ := wk.yld i F' H' x H3 hlt st sat'.fh y
      have ed : items.drop i = d :: items.drop (i + 1) := by
        rw [List.drop_eq_getElem_cons hlt]
        have : items[i] = d := by rw [List.getElem?_eq_getElem hlt] at e1; exact Option.some.inj e1
        rw [this]
      rw [ed] at h2
      unfold forL at h2
      cases eg : g d env' with
      | none => rw [eg] at h2; exact h2.elim
      | some env1 =>
        rw [eg] at h2
        simp only at h2
        refine ⟨F3, env', fp', d, env1, sat'.ext x3, dp, eg, fun σ4 fp4 sat4 sub4 off4 => ?_⟩
        have st4 : StepS F' H' fp' F3 H3 fp4 := (StepS.of_ext x3 fp').subset sub4
        have h4 := PostS.step h2 (.of off4 hS) st4
        refine sb F3 H3 σ4 env1 fp4 _ sat4 ?_
        cases ef : fs env1 with
        | no => rw [ef] at h4; exact h4
        | nx env2 => rw [ef] at h4; exact fun σ5 F5 H5 fp5 o5 s5 sat5 => ⟨F5, env2, fp5, st.trans (x3.ff.trans s5.ff), sat5, PostS.step h4 o5 s5⟩
        | ct env2 => rw [ef] at h4; exact fun σ5 F5 H5 fp5 o5 s5 sat5 => ⟨F5, env2, fp5, st.trans (x3.ff.trans s5.ff), sat5, PostS.step h4 o5 s5⟩
        | bk env2 => rw [ef] at h4; exact h4
        | rt r env2 => rw [ef] at h4; exact h4
        | ex c env2 => rw [ef] at h4; exact h4
  · have e : i = items.length := by omega
    subst e
    rw [List.drop_length] at h2
    exact .inl ⟨wk.stop F' H' st sat'.fh, h2 σ' F' H' fp' (.refl _ _) (StepS.of_ext (.refl sat'.fh) fp') sat'⟩
/-- while c: body, at most n turns -/
def whileN (c : Ev → R Bool) (f : Ev → SR) : Nat → Ev → SR
  | 0, _ => .no
  | n + 1, env => (c env).st env fun b => if b = true then (match f env with
      | .nx env2 => whileN c f n env2
      | .ct env2 => whileN c f n env2
      | .bk env2 => .nx env2
      | .rt r env2 => .rt r env2
      | .ex c env2 => .ex c env2
      | .no => .no) else .nx env
theorem ds_while {c : Expr} {body : List Stmt} {fc : Ev → R Bool} (n : Nat) (hp : PassesOwn (model X.prog X.w) X.A X.env X.xe) (hc : DT X W c fc) (hb : DSs X W S body fs) : DS X W S (.While c body [] pos) (whileN fc fs n) := by
  obtain ⟨tc, pc, sc⟩ := hc
  obtain ⟨tb, pb, sb⟩ := hb
  refine ⟨_, ps_while hp pc pb, fun F H σ env fp D sat h => ?_⟩
  refine ⟨fun m σ' H' => ∃ F' env' fp', Sat X.KK F' H' σ' env' fp' ∧ PostS X W S σ' F' H' fp' D (whileN fc fs m env'), ⟨n, F, env, fp, sat, h⟩, ?_⟩
  rintro m σ' H' ⟨F', env', fp', sat', h2⟩
  cases m with
  | zero => exact h2.elim
  | succ m =>
    unfold whileN at h2
    refine sc.st sat' h2 fun k v F1 H1 sat1 q x1 h3 => ?_
    obtain rfl : v = k := q
    cases v with
    | false => exact h3 σ' F1 H1 fp' (.refl _ _) (StepS.of_ext (.refl sat1.fh) fp') sat1
    | true =>
      rw [if_pos rfl] at h3 ⊢
      refine ⟨fun σ5 H5 => ∃ F5 env2 fp5, Sat X.KK F5 H5 σ5 env2 fp5 ∧ PostS X W S σ5 F5 H5 fp5 D (whileN fc fs m env2), fun σ5 H5 z => ⟨m, Nat.lt_succ_self m, z⟩, ?_⟩
      refine sb F1 H1 σ' env' fp' _ sat1 ?_
      cases ef : fs env' with
      | no => rw [ef] at h3; exact h3
      | nx env2 => rw [ef] at h3; exact fun σ5 F5 H5 fp5 o5 s5 sat5 => ⟨F5, env2, fp5, sat5, PostS.step h3 o5 s5⟩
      | ct env2 => rw [ef] at h3; exact fun σ5 F5 H5 fp5 o5 s5 sat5 => ⟨F5, env2, fp5, sat5, PostS.step h3 o5 s5⟩
      | bk env2 => rw [ef] at h3; exact h3
      | rt r env2 => rw [ef] at h3; exact h3
      | ex c env2 => rw [ef] at h3; exact h3
end
end Mir
end
set_option Elab.async false
set_option linter.all false
set_option maxRecDepth 100000
set_option maxHeartbeats 4000000
noncomputable section
namespace Mir
open PySem PySem.Spec L2

def PostF (K : Kw) (mg : Str → Option Value) (F H : Hp) : R Ow → VK → XK → Prop
  | .no, _, _ => False
  | .ok r, Q, _ => ∀ v F' H', Ext F H F' H' → POw K H r v F' H' → Q v H'
  | .ex c, _, E => ∀ C F' H', mg c = some (.ref C) → Ext F H F' H' → E (.ref C) none H'
def spM (K : Kw) (mg : Str → Option Value) (n : Nat) (m : List D → R Ow) : Sp := fun vs H Q E => ∃ F ds, Same F H ∧ DpAll K F vs ds ∧ ds.length = n ∧ PostF K mg F H (m ds) Q E
theorem spM_len {K : Kw} {mg : Str → Option Value} {n : Nat} {m : List D → R Ow} {vs : List V} {H : Hp} {Q : VK} {E : XK} (h : spM K mg n m vs H Q E) : vs.length = n := by
  obtain ⟨F, ds, _, h1, h2, _⟩ := h
  rw [DpAll.len h1, h2]
def envOf (k : Nat) (ds : List D) : Ev := ds.map (fun d => some (Ow.d d)) ++ List.replicate k none
def runB (k : Nat) (f : Ev → SR) (ds : List D) : R Ow := match f (envOf k ds) with
  | .nx _ => .ok (.d .none)
  | .rt r _ => .ok r
  | .ex c _ => .ex c
  | _ => .no
theorem env_start {K : Kw} {F H : Hp} (k : Nat) : ∀ {vs : List V} {ds : List D}, DpAll K F vs ds → EnvAt K F H (vs.map some ++ List.replicate k none) (envOf k ds) []
  | vs, [], h => by
    cases h
    show EnvAt K F H (List.replicate k none) (List.replicate k none) []
    induction k with
    | zero => exact .nil
    | succ k ih => exact .non ih
  | vs, d :: ds, h => by
    cases h with
    | cons h1 h2 => exact .som (fp := []) (.d h1) (env_start k h2)
section
variable {P : Program} {w : World} {K : PySem.W.Frag} {mg : Str → Option Value} {base : Heap}
theorem mk_fn {x qual : Str} {st : Stmt} {f : Addr} {fd : FuncData} {N ps : List Str} {k l : Nat} {fb : Ev → SR} {m : List D → R Ow} (F : Fun K x qual st f fd) (S : FnScope N ps (defScope st)) (hl : N.length = ps.length + l) (hm : ∀ ds, m ds = runB l fb ds)
    (hb : ∀ (cdv : Value) (A : Around) (outer : List Env) (s : Shared) (H : Hp) (E : XK), Room k (A.deeper (PyProof.Rows.envOfC qual (defScope st) s.heap.objs.size f cdv)) →
      DSs (cxOf (L2.CX P w) P w K mg base N qual (defScope st) f cdv A outer s H E) (fun cls d _ H => E cls d H) (fun _ => true) (defBody st) fb) : FnOk P w K mg base (L2.CX P w) (k + 1) f fd ps (spM ⟨K, w⟩ mg ps.length m) := by
  refine F.okX S (fun vs H Q E h => spM_len h) (fun cdv A outer s H vs Q E hr h => ?_)
  obtain ⟨t, p, sm⟩ := hb cdv A outer s H E hr
  refine ⟨t, p, ?_⟩
  have hlen := spM_len h
  obtain ⟨F0, ds, s1, s2, s3, s4⟩ := h
  have e0 : start N vs = vs.map some ++ List.replicate l none := by
    show vs.map some ++ List.replicate (N.length - vs.length) none = _
    rw [hl, hlen, Nat.add_sub_cancel_left]
  rw [e0]
  have sat : Sat ⟨K, w⟩ F0 H (vs.map some ++ List.replicate l none) (envOf l ds) [] := ⟨s1, env_start l s2, List.nodup_nil⟩
  rw [hm] at s4
  unfold runB at s4
  have ext : ∀ {F' H' : Hp} {fp' : List Addr}, StepS F0 H [] F' H' fp' → Same F' H' → Ext F0 H F' H' := fun st sf => ⟨st.ff, fun b o e => st.fr b o e (by simp), fun b o e => (st.fn b o e).imp id fun z => z.elim (fun z => nomatch z) id, sf⟩
  refine sm F0 H _ _ [] _ sat ?_
  cases e : fb (envOf l ds) with
  | no => rw [e] at s4; exact s4
  | bk env => rw [e] at s4; exact s4.elim
  | ct env => rw [e] at s4; exact s4.elim
  | nx env => rw [e] at s4; exact fun σ' F' H' fp' _ st sat' => s4 .non F' H' (ext st sat'.fh) (own_d .non)
  | rt r env =>
    rw [e] at s4
    intro v σ' F' H' fx fp' _ st sat' ow nd
    refine s4 v F' H' (ext st sat'.fh) ⟨fx, ow, (List.nodup_append.mp nd).1, fun b hb => ?_⟩
    exact (st.sub b (List.mem_append_left _ hb)).elim (fun z => nomatch z) id
  | ex c env => rw [e] at s4; exact fun C σ' F' H' fp' m _ st sat' => s4 C F' H' m (ext st sat'.fh)
end
section
variable {X : Cx} {W : WX} {e : Expr} {es : List Expr} {pos p : Pos}
theorem de_call {k n : Nat} {f : Addr} {fd : FuncData} {ps : List Str} {x : Str} {m : List D → R Ow} {fa : Ev → R (List D)} (F : FnOk X.prog X.w X.K X.mg X.base (L2.CX X.prog X.w) k f fd ps (spM X.KK X.mg n m)) (tk : Takes X W) (hr : Room k X.A) (hg : Gl X x) (hm : X.mg x = some (.ref f))
    (hk : PySem.W.keepIn X.K (.ref f) = true) (hb : Binds X.K fd ps []) (ha : DA X W (e :: es) fa) (hn : ∀ ds env, fa env = .ok ds → ds.length = n)
    (hdb : (x == ("__debug__" : Str)) = false := by decide) (he : starEach (e :: es) X.env = (false, eval e X.env) :: starEach es X.env := by rfl) (hpl : (backTo pos (starEach es X.env)).any (·.1) = false := by rfl) :
    DE X W (.Call (.Name x p) (e :: es) [] pos) (eB fa m) := by
  obtain ⟨t, pa, s⟩ := ha
  refine ⟨_, pe_callS F hr hg hm hk hb (fun σ => passAt tk σ) pa hdb he hpl, fun F0 H σ env fp Q sat hp => ?_⟩
  refine s.choose sat hp (fun z => z _) fun ds ed k => k _ fun vs F1 H1 sat1 q _ h1 => ?_
  refine ⟨F1, ds, sat1.fh, q, hn ds env ed, ?_⟩
  cases em : m ds with
  | no => rw [em] at h1; exact h1
  | ok r => rw [em] at h1; exact h1
  | ex c => rw [em] at h1; exact h1
theorem aNil_len {ds : List D} {env : Ev} (h : aNil env = .ok ds) : ds.length = 0 := by cases h; rfl
theorem aCons_len {n : Nat} {f : Ev → R D} {g : Ev → R (List D)} (ih : ∀ ds env, g env = .ok ds → ds.length = n) : ∀ ds env, aCons f g env = .ok ds → ds.length = n + 1 := fun ds env h => by
  unfold aCons at h
  cases e1 : f env with
  | no => rw [e1] at h; cases h
  | ex c => rw [e1] at h; cases h
  | ok d =>
    rw [e1] at h
    have h' : (g env).map (fun ds => d :: ds) = .ok ds := h
    cases e2 : g env with
    | no => rw [e2] at h'; cases h'
    | ex c => rw [e2] at h'; cases h'
    | ok es =>
      rw [e2] at h'
      cases h'
      simp [ih es env e2]

/-- the reading that a mirror is -/
def tOf (K : Kw) (Pst : Hp → Hp → L2.St → R α → (β → Hp → Prop) → Prop) (f : Ev → R α) : L2.St → Hp → (β → Hp → Prop) → Prop := fun σ H Q => ∃ F env fp, Sat K F H σ env fp ∧ Pst F H σ (f env) Q
def W0 : WX := fun _ _ _ _ => False
theorem PE.imp {X : Cx} {e : Expr} {t t' : TE} (h : PE X e t) (k : ∀ σ H Q, t' σ H Q → t σ H Q) : PE X e t' := ⟨fun pins s σ H Q I q => h.run pins s σ H Q I (k σ H Q q)⟩
theorem PTs.imp {X : Cx} {e : List Expr} {t t' : TT} (h : PTs X e t) (k : ∀ σ H Q, t' σ H Q → t σ H Q) : PTs X e t' := ⟨fun pins s σ H Q I q => h.run pins s σ H Q I (k σ H Q q)⟩
theorem DE.can {X : Cx} {W : WX} {e : Expr} {f : Ev → R Ow} (h : DE X W e f) : PE X e (tOf X.KK (Post X W (POw X.KK)) f) := by
  obtain ⟨t, p, s⟩ := h
  refine PE.imp p ?_
  rintro σ H Q ⟨F, env, fp, sat, h⟩
  exact s F H σ env fp Q sat h
/-- a clause's tests -/
def DTs (X : Cx) (W : WX) (ifs : List Expr) (f : Ev → R Bool) : Prop := ∃ t, PTs X ifs t ∧ Sm X W PTb t f
def cYes (_ : Ev) : R Bool := .ok true
theorem dts_nil : DTs X W [] cYes := ⟨_, pts_nil, fun F H σ env fp Q sat h => h true F H (.refl sat.fh) rfl⟩
theorem dts_one {f : Ev → R Bool} (h : DT X W e f) : DTs X W [e] f := by
  obtain ⟨t, p, s⟩ := h
  exact ⟨_, pts_one p, s⟩
theorem DTs.can {X : Cx} {W : WX} {e : List Expr} {f : Ev → R Bool} (h : DTs X W e f) : L2.PTs X e (tOf X.KK (Post X W PTb) f) := by
  obtain ⟨t, p, s⟩ := h
  refine PTs.imp p ?_
  rintro σ H Q ⟨F, env, fp, sat, h⟩
  exact s F H σ env fp Q sat h
def wipeE (env : Ev) : List Nat → Ev
  | [] => env
  | v :: vs => (wipeE env vs).set v none
theorem set_none_len {α : Type} {l : List (Option α)} {i : Nat} (h : ¬ i < l.length) (x : Option α) : l.set i x = l := List.set_eq_of_length_le (by omega)
theorem wipe_sat {K : Kw} {F H : Hp} {σ : L2.St} {env : Ev} {fp : List Addr} (sat : Sat K F H σ env fp) : ∀ vs : List Nat, ∃ fp', Sat K F H (wipe σ vs) (wipeE env vs) fp' ∧ ∀ b ∈ fp', b ∈ fp
  | [] => ⟨fp, sat, fun _ z => z⟩
  | v :: vs => by
    obtain ⟨fp1, s1, h1⟩ := wipe_sat sat vs
    by_cases hi : v < (wipeE env vs).length
    · obtain ⟨fr, fo, a1, a2, a3, a3', a4, a5, a6⟩ := s1.en.put hi s1.nd
      have e3 := (a6 F H [] [] (StepS.of_ext (.refl sat.fh) []) fun _ _ => by simp).1 none
      exact ⟨fr, ⟨sat.fh, e3, a3⟩, fun b hb => h1 b (a1 b hb)⟩
    · refine ⟨fp1, ?_, h1⟩
      show Sat K F H ((wipe σ vs).set v none) ((wipeE env vs).set v none) fp1
      rw [set_none_len hi, set_none_len (by rw [s1.en.len]; exact hi)]
      exact s1
theorem wipe_get : ∀ (σ : L2.St) (vs : List Nat) (j : Nat), (wipe σ vs)[j]? = if j ∈ vs then (σ[j]?).map (fun _ => none) else σ[j]?
  | σ, [], j => by simp [wipe]
  | σ, v :: vs, j => by
    show ((wipe σ vs).set v none)[j]? = _
    by_cases hj : v = j
    · subst hj
      by_cases hl : v < (wipe σ vs).length
      · rw [List.getElem?_set_self hl]
        rw [wipe_length] at hl
        simp [List.getElem?_eq_getElem hl]
      · rw [set_none_len hl, wipe_get σ vs v]
        rw [wipe_length] at hl
        have e : σ[v]? = none := List.getElem?_eq_none (by omega)
        simp [e]
    · rw [List.getElem?_set_ne hj, wipe_get σ vs j]
      simp [Ne.symm hj]
theorem wipe_off {σ σ' : L2.St} {ix vs : List Nat} (h : Off ix (wipe σ vs) σ') (hs : ∀ i ∈ ix, i ∈ vs) : wipe σ' vs = wipe σ vs := by
  refine List.ext_getElem? fun j => ?_
  rw [wipe_get σ', wipe_get σ]
  by_cases hj : j ∈ vs
  · rw [if_pos hj, if_pos hj]
    have hl := h.1
    rw [wipe_length] at hl
    by_cases hb : j < σ.length
    · rw [List.getElem?_eq_getElem hb, List.getElem?_eq_getElem (by omega : j < σ'.length)]; rfl
    · rw [List.getElem?_eq_none (by omega), List.getElem?_eq_none (by omega)]
  · rw [if_neg hj, if_neg hj, h.2 j fun z => hj (hs j z), wipe_get σ, if_neg hj]
def noEx {α : Type} : R α → R α
  | .ex _ => .no
  | r => r
@[simp] theorem noEx_ok {α : Type} (a : α) : noEx (.ok a) = .ok a := rfl
def lcR (g : D → Ev → Option Ev) (c : Ev → R Bool) (e : Ev → R Ow) (env : Ev) : List D → R (List Ow)
  | [] => .ok []
  | d :: ds => match g d env with
    | none => .no
    | some env1 => (noEx (c env1)).bind fun b => if b = true then (noEx (e env1)).bind fun r => (lcR g c e env ds).map fun rs => r :: rs else lcR g c e env ds
def eLc (it : Ev → R (List D)) (g : D → Ev → Option Ev) (c : Ev → R Bool) (e : Ev → R Ow) (vs : List Nat) (env : Ev) : R Ow := (it env).bind fun ds => guard (ds.length ≤ sizeLine) ((noEx (lcR g c e (wipeE env vs) ds)).map Ow.l)
theorem OwnAll.snoc {K : Kw} {F H : Hp} {v : V} {r : Ow} {fr : List Addr} : ∀ {os : List Ow} {vs : List V} {fp : List Addr}, OwnAll K F H vs os fp → OwnAt K F H v r fr → fp.Nodup → fr.Nodup → (∀ b ∈ fr, b ∉ fp) → ∃ fp', OwnAll K F H (vs ++ [v]) (os ++ [r]) fp' ∧ fp'.Nodup ∧ ∀ b ∈ fp', b ∈ fp ∨ b ∈ fr
  | [], _, _, h, g, n1, n2, dj => by
    cases h
    exact ⟨fr ++ [], .cons g .nil, by simpa using n2, fun b hb => .inr (by simpa using hb)⟩
  | o :: os, _, _, h, g, n1, n2, dj => by
    cases h with
    | @cons _ _ _ _ f1 fs h1 h2 =>
      rw [List.nodup_append] at n1
      obtain ⟨m1, m2, m3⟩ := n1
      obtain ⟨fp', a, b, c⟩ := OwnAll.snoc h2 g m2 n2 fun b hb z => dj b hb (List.mem_append_right _ z)
      refine ⟨f1 ++ fp', .cons h1 a, ?_, fun x hx => ?_⟩
      · rw [List.nodup_append]
        refine ⟨m1, b, fun x hx y hy e => ?_⟩
        subst e
        rcases c x hy with z | z
        · exact m3 x hx x z rfl
        · exact dj x z (List.mem_append_left _ hx)
      · rcases List.mem_append.mp hx with z | z
        · exact .inl (List.mem_append_left _ z)
        · exact (c x z).imp (List.mem_append_right _) id
theorem de_lc_core {wi : TI} {g : D → Ev → Option Ev} {fi : Ev → R (List D)} {fc : Ev → R Bool} {fe : Ev → R Ow} {ix vs : List Nat} (si : Sm X W (PIt X.KK) wi fi) (hix : ∀ i ∈ ix, i ∈ vs) :
    Sm X W (POw X.KK) (tLc wi (tgOf X.KK ix g) (tOf X.KK (Post X W0 PTb) fc) (tOf X.KK (Post X W0 (POw X.KK)) fe) vs) (eLc fi g fc fe vs) := by
  intro F H σ env fp Q sat hp
  refine si.go sat hp fun items J F1 H1 sat1 wk _ h1 => ?_
  have wk : WalkF X.KK J F1 items := wk
  obtain ⟨hz, h2⟩ := guard_post h1
  intro Dd hD
  have hD1 : F1 Dd = none := free_of sat1.fh hD
  cases el : lcR g fc fe (wipeE env vs) items with
  | no => rw [el] at h2; exact h2.elim
  | ex c => rw [el] at h2; exact h2.elim
  | ok all =>
  rw [el] at h2
  have h2 : ∀ v F' H', Ext F1 H1 F' H' → POw X.KK H1 (.l all) v F' H' → Q v H' := h2
  let Iv : Nat → Hp → Prop := fun i H' => ∃ F' acc accO fa rest, Ext F1 H1 F' H' ∧ F' Dd = none ∧ H' Dd = some (.lst acc) ∧ OwnAll X.KK F' H' acc accO fa ∧ fa.Nodup ∧ Dd ∉ fa ∧ accO.length ≤ i ∧ (∀ b ∈ fa, H1 b = none) ∧ lcR g fc fe (wipeE env vs) (items.drop i) = .ok rest ∧ all = accO ++ rest
  refine ⟨fun i m H' => m = items.length - i ∧ i ≤ items.length ∧ Iv i H', ⟨items.length, by simp, Nat.zero_le _, F1, [], [], [], all, Ext.own sat1.fh hD _, hD1, upd_same, .nil, List.nodup_nil, by simp, Nat.le_refl _, (fun b z => nomatch z), el, rfl⟩, ?_⟩
  rintro i m H' ⟨rfl, hi, F', acc, accO, fa, rest, x, fD, hDd, ow, nd, nD, hl, fr, er, ea⟩
  by_cases hlt : i < items.length
  · refine .inr ⟨wk.go i F' H' hlt x.ff x.fh, Iv (i + 1), fun H2 z => ⟨items.length - (i + 1), by omega, rfl, hlt, z⟩, fun v H3 y => ?_⟩
    obtain ⟨d, F3, e1, x3, dp⟩ := wk.yld i F' H' v H3 hlt x.ff x.fh y
    have ed : items.drop i = d :: items.drop (i + 1) := by
      rw [List.drop_eq_getElem_cons hlt]
      have : items[i] = d := by rw [List.getElem?_eq_getElem hlt] at e1; exact Option.some.inj e1
      rw [this]
    rw [ed] at er
    unfold lcR at er
    cases eg : g d (wipeE env vs) with
    | none => rw [eg] at er; cases er
    | some env1 =>
    rw [eg] at er
    simp only at er
    obtain ⟨fpw, satw, subw⟩ := wipe_sat (sat1.ext (x.trans x3)) vs
    refine ⟨F3, _, fpw, d, env1, satw, dp, eg, fun σ2 fp2 sat2 sub2 off2 => ⟨wipe_off off2 hix, F3, env1, fp2, sat2, ?_⟩⟩
    cases ec : fc env1 with
    | no => rw [ec] at er; cases er
    | ex c => rw [ec] at er; cases er
    | ok b =>
    rw [ec] at er
    simp only [noEx_ok, R.bind_ok] at er
    intro v4 F4 H4 x4 ev4
    obtain rfl : v4 = b := ev4
    have xx4 := x3.trans x4
    cases v4 with
    | false =>
      rw [if_neg Bool.false_ne_true] at er ⊢
      have g1 := x.trans xx4
      refine ⟨F4, acc, accO, fa, rest, g1, ?_, xx4.hh _ _ hDd, ow.ext xx4, nd, nD, Nat.le_succ_of_le hl, fr, er, ea⟩
      cases q : F4 Dd with
      | none => rfl
      | some u =>
        rcases xx4.fn Dd u q with z | z
        · rw [fD] at z; cases z
        · rw [hDd] at z; cases z
    | true =>
      rw [if_pos rfl] at er ⊢
      refine ⟨F4, env1, fp2, sat2.ext x4, ?_⟩
      cases ee : fe env1 with
      | no => rw [ee] at er; cases er
      | ex c => rw [ee] at er; cases er
      | ok r =>
      rw [ee] at er
      simp only [noEx_ok, R.bind_ok] at er
      intro y5 F5 H5 x5 ⟨fr5, ow5, nd5, fresh5⟩
      have xx := xx4.trans x5
      have hD5 : H5 Dd = some (.lst acc) := xx.hh _ _ hDd
      have fD5 : F5 Dd = none := by
        cases q : F5 Dd with
        | none => rfl
        | some u =>
          rcases xx.fn Dd u q with z | z
          · rw [fD] at z; cases z
          · rw [hDd] at z; cases z
      have nD5 : Dd ∉ fr5 := fun z => by
        have := fresh5 Dd z
        rw [xx4.hh _ _ hDd] at this; cases this
      cases er2 : lcR g fc fe (wipeE env vs) (items.drop (i + 1)) with
      | no => rw [er2] at er; cases er
      | ex c => rw [er2] at er; cases er
      | ok rest2 =>
      rw [er2] at er
      cases er
      have la := OwnAll.len ow
      have stp : StepS F5 H5 [Dd] F5 (upd H5 Dd (.lst (acc ++ [y5]))) [] := ⟨Same.refl _, fun b o e n => by rw [upd_ne (fun z => n (by simp [z]))]; exact e, fun b o e => .inl e, fun b z => nomatch z⟩
      obtain ⟨fa', ow', nd', sub'⟩ := OwnAll.snoc (OwnAll.keep stp _ _ _ (ow.ext xx) fun b hb => by simp; exact fun z => nD (z ▸ hb)) (OwnAt.keep stp _ _ _ ow5 fun b hb => by simp; exact fun z => nD5 (z ▸ hb)) nd nd5 fun b hb z => by
        obtain ⟨_, vs', e⟩ := OwnAll.there _ _ _ ow b z
        have := xx4.hh.free (fresh5 b hb)
        rw [e] at this; cases this
      refine ⟨acc, hD5, by omega, F5, acc ++ [y5], accO ++ [r], fa', rest2, ⟨(x.trans xx).ff, fun b o e => ?_, (x.trans xx).fn, fun b o e => ?_⟩, fD5, upd_same, ow', nd', ?_, by simp; omega, fun b hb => ?_, er2, by simp [ea]⟩
      · rw [upd_ne (ne_of_none e hD)]; exact (x.trans xx).hh b o e
      · rw [upd_ne (ne_of_none e fD5)]; exact xx.fh b o e
      · intro z
        rcases sub' _ z with q | q
        · exact nD q
        · exact nD5 q
      · rcases sub' b hb with q | q
        · exact fr b q
        · exact x.hh.free (xx4.hh.free (fresh5 b q))
  · have e : i = items.length := by omega
    subst e
    rw [List.drop_length] at er
    cases er
    refine .inl ⟨wk.stop F' H' x.ff x.fh, h2 _ F' H' x ⟨Dd :: fa, ?_, List.nodup_cons.mpr ⟨nD, nd⟩, fun b hb => ?_⟩⟩
    · rw [ea, List.append_nil]; exact .l fD hDd ow
    · rcases List.mem_cons.mp hb with z | z
      · rw [z]; exact hD
      · exact fr b z
theorem de_lc {elt tg iter : Expr} {ifs : List Expr} {scope : Scope} {own : List (Str × Nat)} {g : D → Ev → Option Ev} {fi : Ev → R (List D)} {fc : Ev → R Bool} {fe : Ev → R Ow} {ix : List Nat} (hc : X.calm = true) (hN : X.N.Nodup) (hi : DI X W tg iter fi) (ok : BlkOk X.N X.env.scope scope own)
    (hg : ∀ (s : Shared) (H : Hp) (C : Addr) (cl : List (Str × Addr)) (fp : List Addr), DG (X.blk s H scope (compEnvC scope cl C X.env) fp) tg ix g) (ht : ∀ (s : Shared) (H : Hp) (C : Addr) (cl : List (Str × Addr)) (fp : List Addr), DTs (X.blk s H scope (compEnvC scope cl C X.env) fp) W0 ifs fc)
    (he : ∀ (s : Shared) (H : Hp) (C : Addr) (cl : List (Str × Addr)) (fp : List Addr), DE (X.blk s H scope (compEnvC scope cl C X.env) fp) W0 elt fe) (hix : ∀ i ∈ ix, i ∈ own.map (·.2) := by decide) (hs : ∀ x, foldedSetIterable iter X.env x = pure x := by intro _; rfl) :
    DE X W (.ListComp elt [⟨tg, iter, ifs, 0⟩] scope pos) (eLc fi g fc fe (own.map (·.2))) := by
  obtain ⟨wi, pi, si⟩ := hi
  exact ⟨_, pe_lc (g := tgOf X.KK ix g) hc hN pi ok (fun s H C cl fp => hg s H C cl fp) (fun s H C cl fp => (ht s H C cl fp).can) (fun s H C cl fp => (he s H C cl fp).can) hs, de_lc_core si hix⟩
end
end Mir
end
set_option Elab.async false
set_option linter.all false
set_option maxRecDepth 100000
set_option maxHeartbeats 4000000
noncomputable section
namespace Mir
open PySem PySem.Spec L2

section
variable {K : Kw} {F H : Hp} {σ : L2.St} {env : Ev} {fp : List Addr}
theorem set_self {σ : L2.St} {i : Nat} {v : V} (h : σ[i]? = some (some v)) : σ.set i (some v) = σ := by
  refine List.ext_getElem? fun j => ?_
  by_cases hj : i = j
  · subst hj
    rw [List.getElem?_set_self (List.getElem?_eq_some_iff.mp h).1]
    exact h.symm
  · rw [List.getElem?_set_ne hj]
theorem mut_step {F H F1 H1 : Hp} {a : Addr} {vs vs' : List V} (x : Ext F H F1 H1) (h : H a = some (.lst vs)) : StepS F H [a] F1 (upd H1 a (.lst vs')) [] :=
  ⟨x.ff, fun b o e n => by rw [upd_ne (fun z => n (by simp [z]))]; exact x.hh b o e, fun b o e => (x.fn b o e).imp id .inr, fun b z => nomatch z⟩
theorem mut_free {F H F1 H1 : Hp} {a : Addr} {vs : List V} (x : Ext F H F1 H1) (hf : F a = none) (h : H a = some (.lst vs)) : F1 a = none := by
  cases q : F1 a with
  | none => rfl
  | some u =>
    rcases x.fn a u q with z | z
    · rw [hf] at z; cases z
    · rw [h] at z; cases z
theorem mut_same {F1 H1 : Hp} {a : Addr} {o : HO} (s : Same F1 H1) (hf : F1 a = none) : Same F1 (upd H1 a o) := fun b u e => by
  rw [upd_ne (ne_of_none e hf)]; exact s b u e
/-- the list in slot i, and what is left when it is changed -/
theorem Sat.mut (sat : Sat K F H σ env fp) {i : Nat} {os : List Ow} (hi : env[i]? = some (some (.l os))) : ∃ a vs fo, σ[i]? = some (some (.ref a)) ∧ F a = none ∧ H a = some (.lst vs) ∧ OwnAll K F H vs os fo ∧ fo.Nodup ∧ a ∉ fo ∧ (∀ b ∈ a :: fo, b ∈ fp) ∧
    ∀ F1 H1 vs' os' fo', Ext F H F1 H1 → OwnAll K F1 (upd H1 a (.lst vs')) vs' os' fo' → fo'.Nodup → (∀ b ∈ fo', b ∈ fo ∨ H b = none) → ∃ fp', StepS F H fp F1 (upd H1 a (.lst vs')) fp' ∧ Sat K F1 (upd H1 a (.lst vs')) σ (env.set i (some (.l os'))) fp' := by
  have hl : i < env.length := (List.getElem?_eq_some_iff.mp hi).1
  obtain ⟨fr, fo0, a1, a2, a3, a3', a4, a5, a6⟩ := sat.en.put hl sat.nd
  obtain ⟨v, e1, e2⟩ := a5 _ hi
  cases e2 with
  | @l a vs _ fo h1 h2 h3 =>
    obtain ⟨nd1, nd2⟩ := List.nodup_cons.mp a3'
    refine ⟨a, vs, fo, e1, h1, h2, h3, nd2, nd1, a2, fun F1 H1 vs' os' fo' x ow nd sub => ?_⟩
    have hf1 := mut_free x h1 h2
    have na' : a ∉ fo' := fun z => by
      rcases sub a z with q | q
      · exact nd1 q
      · rw [h2] at q; cases q
    have fresh : ∀ b, H b = none → b ∉ fr := fun b q z => by
      obtain ⟨_, w, e⟩ := sat.en.there b (a1 b z)
      rw [q] at e; cases e
    obtain ⟨fp', b1, b2, b3⟩ := (a6 F1 (upd H1 a (.lst vs')) [a] [] (mut_step x h2) fun b hb z => a4 b (by rw [List.mem_singleton.mp z]; exact List.mem_cons_self) hb).2 (.ref a) (.l os') (a :: fo') (.l hf1 upd_same ow) (List.nodup_cons.mpr ⟨na', nd⟩) fun b hb z => by
      rcases List.mem_cons.mp hb with q | q
      · subst q; exact a4 b List.mem_cons_self z
      · rcases sub b q with q | q
        · exact a4 b (List.mem_cons_of_mem _ q) z
        · exact fresh b q z
    rw [set_self e1] at b3
    refine ⟨fp', (mut_step x h2).mono (fun b hb => by rw [List.mem_singleton.mp hb]; exact a2 a List.mem_cons_self) |> fun s => ⟨s.ff, s.fr, s.fn, fun b hb => ?_⟩, mut_same x.fh hf1, b3, b1⟩
    rcases b2 b hb with q | q
    · rcases List.mem_cons.mp q with q | q
      · rw [q]; exact .inl (a2 a List.mem_cons_self)
      · rcases sub b q with q | q
        · exact .inl (a2 b (List.mem_cons_of_mem _ q))
        · exact .inr q
    · exact .inl (a1 b q)
/-- the items of an own list, behind a change at the list itself -/
theorem own_mut {F1 H1 : Hp} {a : Addr} {vs vs' : List V} {os : List Ow} {fo : List Addr} (x : Ext F H F1 H1) (h : H a = some (.lst vs)) (ow : OwnAll K F H vs os fo) (na : a ∉ fo) : OwnAll K F1 (upd H1 a (.lst vs')) vs os fo :=
  OwnAll.keep (mut_step x h) _ _ _ ow fun b hb z => na (by rw [← List.mem_singleton.mp z]; exact hb)
theorem own_mut1 {F1 H1 : Hp} {a : Addr} {vs vs' : List V} {v : V} {r : Ow} {fx : List Addr} (s : Same F1 H1) (hf : F1 a = none) (h : H1 a = some (.lst vs)) (ow : OwnAt K F1 H1 v r fx) (na : a ∉ fx) : OwnAt K F1 (upd H1 a (.lst vs')) v r fx :=
  OwnAt.keep (mut_step (.refl s) h) _ _ _ ow fun b hb z => na (by rw [← List.mem_singleton.mp z]; exact hb)
theorem OwnAll.get {F H : Hp} : ∀ {os : List Ow} {vs : List V} {fp : List Addr} {k : Nat} {o : Ow}, OwnAll K F H vs os fp → fp.Nodup → os[k]? = some o → ∃ (v : V) (fo fr : List Addr), vs[k]? = some v ∧ OwnAt K F H v o fo ∧ fo.Nodup ∧ fr.Nodup ∧ (∀ b ∈ fo, b ∈ fp) ∧ (∀ b ∈ fr, b ∈ fp) ∧ (∀ b ∈ fo, b ∉ fr) ∧
    ∀ F' H' fx fy v' o' fn, StepS F H fx F' H' fy → (∀ b ∈ fr, b ∉ fx) → OwnAt K F' H' v' o' fn → fn.Nodup → (∀ b ∈ fn, b ∉ fr) → ∃ fp', OwnAll K F' H' (vs.set k v') (os.set k o') fp' ∧ fp'.Nodup ∧ ∀ b ∈ fp', b ∈ fn ∨ b ∈ fr
  | [], _, _, k, o, h, nd, e => by simp at e
  | x :: os, _, _, 0, o, h, nd, e => by
    cases h with
    | @cons v vs _ _ f1 fs h1 h2 =>
      simp at e; subst e
      obtain ⟨n1, n2, n3⟩ := List.nodup_append.mp nd
      refine ⟨v, f1, fs, rfl, h1, n1, n2, fun b z => List.mem_append_left _ z, fun b z => List.mem_append_right _ z, fun b z q => n3 b z b q rfl, fun F' H' fx fy v' o' fn st dj ow nf df => ?_⟩
      refine ⟨fn ++ fs, .cons ow (OwnAll.keep st _ _ _ h2 dj), ?_, fun b hb => List.mem_append.mp hb⟩
      rw [List.nodup_append]
      exact ⟨nf, n2, fun a ha b hb e => df a ha (e ▸ hb)⟩
  | x :: os, _, _, k + 1, o, h, nd, e => by
    cases h with
    | @cons v vs _ _ f1 fs h1 h2 =>
      obtain ⟨n1, n2, n3⟩ := List.nodup_append.mp nd
      obtain ⟨v0, fo, fr, g1, g2, g3, g4, g5, g6, g7, g8⟩ := OwnAll.get (k := k) h2 n2 (by simpa using e)
      refine ⟨v0, fo, f1 ++ fr, by simpa using g1, g2, g3, ?_, fun b z => List.mem_append_right _ (g5 b z), fun b z => ?_, fun b z q => ?_, fun F' H' fx fy v' o' fn st dj ow nf df => ?_⟩
      · rw [List.nodup_append]; exact ⟨n1, g4, fun a ha b hb e => n3 a ha b (g6 b hb) e⟩
      · exact (List.mem_append.mp z).elim (List.mem_append_left _) fun z => List.mem_append_right _ (g6 b z)
      · rcases List.mem_append.mp q with q | q
        · exact n3 b q b (g5 b z) rfl
        · exact g7 b z q
      · obtain ⟨fp', c1, c2, c3⟩ := g8 F' H' fx fy v' o' fn st (fun b hb => dj b (List.mem_append_right _ hb)) ow nf fun b hb z => df b hb (List.mem_append_right _ z)
        refine ⟨f1 ++ fp', .cons (OwnAt.keep st _ _ _ h1 fun b hb => dj b (List.mem_append_left _ hb)) c1, ?_, fun b hb => ?_⟩
        · rw [List.nodup_append]
          refine ⟨n1, c2, fun a ha b hb e => ?_⟩
          subst e
          rcases c3 a hb with z | z
          · exact df a z (List.mem_append_left _ ha)
          · exact n3 a ha a (g6 a z) rfl
        · rcases List.mem_append.mp hb with z | z
          · exact .inr (List.mem_append_left _ z)
          · exact (c3 b z).imp id (List.mem_append_right _)
end
section
variable {X : Cx} {W : WX} {S : Nat → Bool} {e e1 e2 : Expr} {pos cpos apos npos : Pos} {x : Str}
def ownL (i : Nat) (env : Ev) (k : List Ow → SR) : SR := match env[i]? with
  | some (some (.l os)) => k os
  | _ => .no
theorem ownL_post {σ : L2.St} {F H : Hp} {fp : List Addr} {D : Ends} {i : Nat} {env : Ev} {k : List Ow → SR} (h : PostS X W S σ F H fp D (ownL i env k)) : ∃ os, env[i]? = some (some (.l os)) ∧ PostS X W S σ F H fp D (k os) := by
  unfold ownL at h
  split at h
  · exact ⟨_, ‹_›, h⟩
  · exact h.elim
/-- x.append(e) -/
def sApp (i : Nat) (f : Ev → R Ow) (env : Ev) : SR := ownL i env fun os => (f env).st env fun r => if os.length < sizeLine then .nx (env.set i (some (.l (os ++ [r])))) else .no
theorem ds_app {f : Ev → R Ow} (i : Nat) (he : DE X W e f) (hN : X.N[i]? = some x := by rfl) (hv : Vis X.env.scope x := by first | exact Or.inl rfl | exact Or.inr (Or.inl rfl) | exact Or.inr (Or.inr rfl)) (hd : (x == ("__debug__" : Str)) = false := by decide) (hcd : (x == ("__classdict__" : Str)) = false := by decide)
    (hbase : attributeBase (.Name x npos) "append" X.env (eval (.Name x npos) X.env) = eval (.Name x npos) X.env := by rfl)
    (hfew : ((backTo cpos (starEach [e] X.env)).all (fun x => !x.1) && (backToKw cpos (keywordEach [] X.env)).all (fun x => x.1.isSome) && decide ([e].length + ([] : List Keyword).length + (if ([] : List Keyword).isEmpty then 0 else 1) < 30)) = true := by rfl)
    (hline : (apos.endLine == cpos.line) = true := by rfl) (hs : starEach [e] X.env = (false, eval e X.env) :: starEach [] X.env := by rfl) (hplain : (backTo cpos (starEach [] X.env)).any (·.1) = false := by rfl)
    (hsw : swapsWith (.Call (.Attribute (.Name x npos) "append" apos) [e] [] cpos) none pos.line X.env = pure false := by rfl) : DS X W S (.Expr (.Call (.Attribute (.Name x npos) "append" apos) [e] [] cpos) pos) (sApp i f) := by
  obtain ⟨t, p, s⟩ := he
  refine ⟨_, ps_expr (pe_bm PySem.F.plainAttrs_list PySem.F.slot_list_append PySem.F.type_list_append mt_append (pe_var hN hv hd hcd) (pa_cons p pa_nil hs) hbase hfew hline hs hplain) hsw, fun F H σ env fp D sat h => ?_⟩
  obtain ⟨os, eo, h⟩ := ownL_post h
  obtain ⟨a, vs, fo, c1, c0, c2, c3, c4, c5, c6, c7⟩ := sat.mut eo
  refine ⟨.ref a, c1, .inl ⟨rfl, vs, SqL.of c2⟩, ?_⟩
  refine s F H σ env fp _ sat ?_
  cases ef : f env with
  | no => rw [ef] at h; exact h
  | ex c => rw [ef] at h; exact fun C F' H' m x => h C σ F' H' fp m (.refl _ _) (StepS.of_ext x fp) (sat.ext x)
  | ok r =>
    rw [ef] at h
    intro v F1 H1 x1 ⟨fx, ow, nx, fr⟩
    have h2 : PostS X W S σ F H fp D (if os.length < sizeLine then .nx (env.set i (some (.l (os ++ [r])))) else .no) := h
    split at h2
    · have la := OwnAll.len c3
      have hb := x1.hh _ _ c2
      obtain ⟨fo', g1, g2, g3⟩ := OwnAll.snoc (own_mut (vs' := vs ++ [v]) x1 c2 c3 c5) (own_mut1 x1.fh (mut_free x1 c0 c2) hb ow fun z => by rw [fr a z] at c2; cases c2) c4 nx fun b hb z => by
        obtain ⟨_, w, e⟩ := OwnAll.there _ _ _ c3 b z
        rw [fr b hb] at e; cases e
      obtain ⟨fp', st, sat'⟩ := c7 F1 H1 (vs ++ [v]) (os ++ [r]) fo' x1 g1 g2 fun b hb => (g3 b hb).imp id (fr b)
      exact ⟨a, vs, v, rfl, rfl, hb, by omega, h2 σ F1 _ fp' (.refl _ _) st sat'⟩
    · exact h2.elim
def asL : D → R (List D)
  | .list ds => .ok ds
  | _ => .no
@[simp] theorem asL_list (ds : List D) : asL (.list ds) = .ok ds := rfl
def sExt (i : Nat) (f : Ev → R D) (env : Ev) : SR := ownL i env fun os => (f env).st env fun d => (asL d).st env fun ds => if os.length + ds.length ≤ sizeLine then .nx (env.set i (some (.l (os ++ ds.map Ow.d)))) else .no
/-- x[k] = e -/
def putAt (i : Nat) (env : Ev) (os : List Ow) (r : Ow) : D → SR
  | .int k => match ixN os.length k with
    | some j => .nx (env.set i (some (.l (os.set j r))))
    | none => .no
  | _ => .no
def sPut (i : Nat) (f : Ev → R Ow) (g : Ev → R D) (env : Ev) : SR := (f env).st env fun r => ownL i env fun os => (g env).st env (putAt i env os r)
theorem OwnAll.set {K : Kw} {F H : Hp} {os : List Ow} {vs : List V} {fp : List Addr} {j : Nat} {v : V} {r : Ow} {fx : List Addr} (s : Same F H) (h : OwnAll K F H vs os fp) (nd : fp.Nodup) (hj : j < os.length) (ow : OwnAt K F H v r fx) (nx : fx.Nodup) (dj : ∀ b ∈ fx, b ∉ fp) :
    ∃ fp', OwnAll K F H (vs.set j v) (os.set j r) fp' ∧ fp'.Nodup ∧ ∀ b ∈ fp', b ∈ fp ∨ b ∈ fx := by
  obtain ⟨v0, fo, fr, g1, g2, g3, g4, g5, g6, g7, g8⟩ := OwnAll.get (k := j) h nd (List.getElem?_eq_getElem hj)
  obtain ⟨fp', a, b, c⟩ := g8 F H [] [] v r fx (StepS.of_ext (.refl s) []) (fun _ _ => by simp) ow nx fun b hb z => dj b hb (g6 b z)
  exact ⟨fp', a, b, fun b hb => (c b hb).elim .inr fun z => .inl (g6 b z)⟩
end
end Mir
end
set_option Elab.async false
set_option linter.all false
set_option maxRecDepth 100000
set_option maxHeartbeats 4000000
noncomputable section
namespace Mir
open PySem PySem.Spec L2

def PAs (K : Kw) (_ : Hp) (r : Ow) (v : V) (F' H' : Hp) : Prop := ∃ fp, OwnAt K F' H' v r fp
instance {K : Kw} : Anti (PAs K) := ⟨fun _ h => h⟩
def DP (X : Cx) (W : WX) (e : Expr) (f : Ev → R Ow) : Prop := ∃ t, PE X e t ∧ Sm X W (PAs X.KK) t f
section
variable {X : Cx} {W : WX} {S : Nat → Bool} {e a b : Expr} {pos cpos apos npos : Pos} {x : Str}
theorem dp_var (i : Nat) {x : Str} (hN : X.N[i]? = some x := by rfl) (hv : Vis X.env.scope x := by first | exact Or.inl rfl | exact Or.inr (Or.inl rfl) | exact Or.inr (Or.inr rfl)) (hd : (x == ("__debug__" : Str)) = false := by decide)
    (hcd : (x == ("__classdict__" : Str)) = false := by decide) : DP X W (.Name x pos) (eVarO i) := by
  refine ⟨_, pe_var hN hv hd hcd, fun F H σ env fp Q sat h => ?_⟩
  have h' : Post X W (PAs X.KK) F H σ ((eVarO i env).bind fun o => .ok o) Q := by
    cases e : eVarO i env <;> rw [e] at h <;> exact h
  obtain ⟨o, he, _, h2⟩ := eVarO_ok h'
  obtain ⟨v, fo, h1, h3, _⟩ := sat.en.get he
  exact ⟨v, h1, h2 v F H (.refl sat.fh) ⟨fo, h3⟩⟩
def ixO : Ow → D → R Ow
  | .l os, .int k => match atI os k with
    | some o => .ok o
    | none => .no
  | _, _ => .no
def eIxO (f : Ev → R Ow) (g : Ev → R D) (env : Ev) : R Ow := (f env).bind fun o => (g env).bind fun d => ixO o d
theorem OwnAll.at {K : Kw} {F H : Hp} {os : List Ow} {vs : List V} {fp : List Addr} {k : Int} {o : Ow} (h : OwnAll K F H vs os fp) (e : atI os k = some o) : ∃ v fo, atI vs k = some v ∧ OwnAt K F H v o fo := by
  have hl := OwnAll.len h
  unfold atI at e ⊢
  rw [hl]
  cases hj : ixN os.length k with
  | none => rw [hj] at e; cases e
  | some j =>
    rw [hj] at e
    have e : os[j]? = some o := e
    have : ∀ {os : List Ow} {vs : List V} {fp : List Addr} {j : Nat}, OwnAll K F H vs os fp → os[j]? = some o → ∃ v fo, vs[j]? = some v ∧ OwnAt K F H v o fo := by
      intro os
      induction os with
      | nil => intro vs fp j h e; simp at e
      | cons q os ih =>
        intro vs fp j h e
        cases h with
        | cons h1 h2 =>
          cases j with
          | zero => simp at e; subst e; exact ⟨_, _, rfl, h1⟩
          | succ j =>
            obtain ⟨v, fo, a, b⟩ := ih h2 (by simpa using e)
            exact ⟨v, fo, by simpa using a, b⟩
    exact this h e
theorem dl_dp {f : Ev → R Ow} (h : DP X W e f) : DL X W e (eB f shD) := by
  obtain ⟨t, p, s⟩ := h
  refine ⟨t, p, fun F H σ env fp Q sat h => s F H σ env fp Q sat (Post.thru h fun d _ h' v F' H' x ⟨fp, q⟩ => ?_)⟩
  obtain ⟨r, e2⟩ := shD_ok h'
  rw [e2] at h'
  exact h' v F' H' x (own_seq x.fh q e2)
theorem dv_dp {f : Ev → R Ow} (h : DP X W e f) : DV X W e (eM f viewD) := by
  obtain ⟨t, p, s⟩ := h
  refine ⟨t, p, Sm.map s fun H o v F' H' sm ⟨fp, q⟩ => ⟨viewD o, rfl, OwnAt.view sm o v fp q⟩⟩

def repO : Ow → D → R Ow
  | .l os, .int k => match unDs os with
    | some ds => guard (-(2 ^ 63) ≤ k ∧ k < 2 ^ 63 ∧ os.length * k.toNat ≤ sizeLine) (.ok (.l ((List.replicate k.toNat ds).flatten.map Ow.d)))
    | none => .no
  | _, _ => .no
def eRep (f : Ev → R Ow) (g : Ev → R D) (env : Ev) : R Ow := (f env).bind fun o => (g env).bind fun d => repO o d
def eAug (h : D → D → Option D) (i : Nat) (f : Ev → R D) (env : Ev) : R D := (eVar i env).bind fun x => (f env).bind fun y => R.of (h x y)
def sAug (h : D → D → Option D) (i : Nat) (f : Ev → R D) (env : Ev) : SR := (eAug h i f env).st env fun d => if i < env.length then .nx (env.set i (some (.d d))) else .no
end
end Mir
end
set_option Elab.async false
set_option linter.all false
set_option maxRecDepth 100000
set_option maxHeartbeats 4000000
noncomputable section
namespace Mir
open PySem PySem.Spec L2

section
variable {K : Kw} {F H : Hp} {σ : L2.St} {env : Ev} {fp : List Addr}
end
section
variable {X : Cx} {W : WX} {S : Nat → Bool} {e k : Expr} {pos cpos apos npos tpos : Pos} {x : Str}
theorem ds_setLc {elt tg iter : Expr} {ifs : List Expr} {scope : Scope} {own : List (Str × Nat)} {g : D → Ev → Option Ev} {fi : Ev → R (List D)} {fc : Ev → R Bool} {fe : Ev → R Ow} {ix : List Nat} {y : Str} {py spos : Pos} (i : Nat) (hc : X.calm = true) (hN : X.N.Nodup) (hi : DI X W tg iter fi) (ok : BlkOk X.N X.env.scope scope own)
    (hg : ∀ (s : Shared) (H : Hp) (C : Addr) (cl : List (Str × Addr)) (fp : List Addr), DG (X.blk s H scope (compEnvC scope cl C X.env) fp) tg ix g) (ht : ∀ (s : Shared) (H : Hp) (C : Addr) (cl : List (Str × Addr)) (fp : List Addr), DTs (X.blk s H scope (compEnvC scope cl C X.env) fp) W0 ifs fc)
    (he : ∀ (s : Shared) (H : Hp) (C : Addr) (cl : List (Str × Addr)) (fp : List Addr), DE (X.blk s H scope (compEnvC scope cl C X.env) fp) W0 elt fe) (hix : ∀ i ∈ ix, i ∈ own.map (·.2) := by decide) (hs : ∀ x, foldedSetIterable iter X.env x = pure x := by intro _; rfl)
    (hy : X.N[i]? = some y := by rfl) (hyl : X.env.scope.names.lookup y = some .local := by rfl) (hsw : swapsWith (.ListComp elt [⟨tg, iter, ifs, 0⟩] scope pos) (some (.Name y py)) spos.line X.env = pure true := by exact sw_true rfl rfl rfl (by decide +kernel)) (hS : S i = true := by rfl) :
    DS X W S (.Assign [.Name y py] (.ListComp elt [⟨tg, iter, ifs, 0⟩] scope pos) spos) (sSet i (eLc fi g fc fe (own.map (·.2)))) := by
  obtain ⟨wi, pi, si⟩ := hi
  refine ⟨_, ps_setLc (g := tgOf X.KK ix g) (tt := tOf X.KK (Post X W0 PTb) fc) (te := tOf X.KK (Post X W0 (POw X.KK)) fe) hc hN hy hyl hsw pi ok (fun s H C cl fp => hg s H C cl fp) (fun s H C cl fp => (ht s H C cl fp).can) (fun s H C cl fp => (he s H C cl fp).can) hs, fun F H σ env fp D sat h => ?_⟩
  refine de_lc_core si hix F H σ env fp _ sat ?_
  unfold sSet at h
  cases e : eLc fi g fc fe (own.map (·.2)) env with
  | no => rw [e] at h; exact h
  | ex c => rw [e] at h; exact fun C F' H' m x => h C σ F' H' fp m (.refl _ _) (StepS.of_ext x fp) (sat.ext x)
  | ok r =>
    rw [e] at h
    intro v F' H' x ⟨fx, q, nd, n⟩
    have h' : PostS X W S σ F H fp D (if i < env.length then .nx (env.set i (some r)) else .no) := h
    split at h'
    · obtain ⟨fp', s1, s2⟩ := put_step sat x q nd n ‹_›
      exact h' _ F' H' fp' (.set hS _) s1 s2
    · exact h'.elim
end
end Mir
end
set_option Elab.async false
set_option linter.all false
set_option maxRecDepth 100000
set_option maxHeartbeats 4000000
noncomputable section
namespace Mir
open PySem PySem.Spec PySem.W PySem.Calls PyProof.Rows PySem.SeqAt

section
variable {prog : Program} {w : World} {A : Around} {E : Value → Shared → Prop} {s : Shared}
theorem call_tuple_lt {Q : Value → Shared → Prop} {l b : Addr} {items items2 : Array Value} {e r : Nat → Bool} (hl : s.heap.IsTuple l items) (hb : s.heap.IsTuple b items2)
    (he : ∀ j (h1 : j < items.size) (h2 : j < items2.size), SeqAt.EqAt A.in1 s items[j] items2[j] (e j)) (hr : ∀ j (h1 : j < items.size) (h2 : j < items2.size), e j = false → RcLt A.in1 s items[j] items2[j] (r j))
    (h : Q (.bool (firstLt e r (decide (items.size < items2.size)) (List.range (min items.size items2.size)))) s) : wpAny (model prog w) A (call (.builtin "tuple.__lt__") [.ref l, .ref b]) Q E s := by
  obtain ⟨⟨cls, dd, data, sl⟩, ho, hc, n, hd⟩ := id hl
  obtain ⟨⟨cls2, dd2, data2, sl2⟩, ho2, hc2, n2, hd2⟩ := id hb
  simp only at hc hd hc2 hd2
  subst hc hd hc2 hd2
  exact call_meets F.slot_tuple_lt ⟨_, ho, rfl⟩ F.entry_tuple_lt (F.args_tuple_lt_2 _ _) (tuple_ltAt l b items items2 n n2 dd dd2 sl sl2 e r)
    ⟨ho, ho2, he, hr, h⟩
theorem oneLt_tuples {xs ys : List PyData} {a b : Value} {as bs : List Addr} {Q : Bool → Shared → Prop} (ra : Reads s.heap a (.tuple xs) as) (rb : Reads s.heap b (.tuple ys) bs) (hal : alikeAll xs ys = true)
    (hu : A.units + min (PyData.tuple xs).depth (PyData.tuple ys).depth < cLine) (hq : Q (dataLt (.tuple xs) (.tuple ys)) s) : wpAny (model prog w) A (oneLt' true a b) Q E s := by
  cases ra with
  | @tuple l o vs n _ as₁ h1 h2 h3 h4 =>
    cases rb with
    | @tuple l' o' vs' n' _ bs₁ k1 k2 k3 k4 =>
      have n1 : vs.size = xs.length := by simpa using SeqAt.ReadsAll.length _ _ _ h4
      have n2 : vs'.size = ys.length := by simpa using SeqAt.ReadsAll.length _ _ _ k4
      rw [dataLt_tuple, ← firstLt_toks xs ys hal, ← n1, ← n2] at hq
      rw [oneLt'_eq]
      simp only [if_true]
      refine wpAny_bind (wpAny_cRoomFor (SeqAt.room_here hu) ?_)
      refine wpAny_bind (wpAny_callSpecialIfBound?_slot (T := "tuple") ⟨_, h1, h2⟩ F.slot_tuple_lt (call_tuple_lt (e := SeqAt.pairEq xs ys) (r := fun j => dataLt (xs.getD j .none) (ys.getD j .none)) ⟨_, h1, h2, _, h3⟩ ⟨_, k1, k2, _, k3⟩ (fun j j1 j2 => ?_) (fun j j1 j2 hj => ?_) ?_))
      · have := eqAt_alikeAll xs ys A.in1 s vs.toList vs'.toList _ _ h4 k4 hal (SeqAt.room_in hu) j (by simpa using j1) (by simpa using j2)
        simpa using this
      · have := rcLt_alikeAll xs ys A.in1 s vs.toList vs'.toList _ _ h4 k4 hal (SeqAt.room_in hu) j (by simpa using j1) (by simpa using j2) hj
        simpa using this
      · exact wpAny_truthy_bool hq
end
section
variable {prog : Program} {w : World} {A : Around} {s : Shared}
def neD : PyData → Bool
  | .tuple [] => false
  | _ => true
theorem firsts_tup {M : Model} : ∀ {vs : List Value} {ds : List PyData}, EachIs (fun v d => ∃ as, Reads s.heap v d as) vs ds → (∀ d, d ∈ ds → ∃ xs, d = .tuple xs) → ∃ fs : List (Option Value), fs.map Option.isSome = ds.map neD ∧ ∀ (A : Around) (E : Value → Shared → Prop) (Q : List (Option Value) → Shared → Prop), Q fs s → wpAny M A (vs.mapM firstOfTuple') Q E s
  | _, _, .nil, _ => ⟨[], rfl, fun A E Q h => by rw [List.mapM_nil]; exact wpAny_pure h⟩
  | _, _, .cons (a := v) (b := d) (as := vs) (bs := ds) ⟨as, r⟩ t, ht => by
    obtain ⟨fs, h1, h2⟩ := firsts_tup (M := M) t fun d hd => ht d (List.mem_cons_of_mem _ hd)
    obtain ⟨xs, rfl⟩ := ht d List.mem_cons_self
    cases r with
    | @tuple a o ys n _ _ ho hc hd hr =>
      refine ⟨ys[0]? :: fs, ?_, fun A E Q h => ?_⟩
      · rw [List.map_cons, List.map_cons, h1]
        congr 1
        cases xs with
        | nil =>
          have e : ys.toList = [] := by cases q : ys.toList with | nil => rfl | cons u us => rw [q] at hr; cases hr
          have e2 : ys[0]? = none := by rw [← Array.getElem?_toList, e]; rfl
          rw [e2]; rfl
        | cons x r =>
          cases q : ys.toList with
          | nil => rw [q] at hr; cases hr
          | cons u us =>
            have e2 : ys[0]? = some u := by rw [← Array.getElem?_toList, q]; rfl
            rw [e2]; rfl
      · rw [List.mapM_cons]
        refine wpAny_bind ?_
        rw [kas_first_eq]
        refine wpAny_bind (Looks.here (show Looks M s.heap (typeOf (.ref a)) o.cls from (Looks.ld ho).andThen .now) ?_)
        rw [hc, if_neg (by first | decide | simp)]
        refine wpAny_bind (listItems_at ho hd (wpAny_pure ?_))
        exact wpAny_bind (h2 A E (fun bs s' => wpAny M A (pure (ys[0]? :: bs)) Q E s') (wpAny_pure h))
/-- tuples that read as alike data can be sorted -/
theorem sortsAt_tuples {vs : List Value} {ds : List PyData} (e : EachIs (fun v d => ∃ as, Reads s.heap v d as) vs ds) (hal : AllAlike ds) (ht : ∀ d, d ∈ ds → ∃ xs, d = .tuple xs) (hu : ∀ d, d ∈ ds → A.units + d.depth < cLine) : SortsAt prog w A s (dataKind s.heap ds) vs := by
  by_cases hne : ∀ d, d ∈ ds → ∃ x r, d = .tuple (x :: r)
  · exact SortsAt.data e hal (.inl hne) hu
  have room : ∀ {d d' : PyData}, d ∈ ds → A.units + min d.depth d'.depth < cLine := fun {d d'} hd => Nat.lt_of_le_of_lt (Nat.add_le_add_left (Nat.min_le_left _ _) _) (hu d hd)
  obtain ⟨fs, h1, h2⟩ := firsts_tup (M := model prog w) e ht
  have hnall : (fs.toArray.all fun x => x.isSome) = false := by
    rw [List.all_toArray, Bool.eq_false_iff]
    intro hall
    refine hne fun d hd => ?_
    obtain ⟨xs, rfl⟩ := ht d hd
    cases xs with
    | cons x r => exact ⟨x, r, rfl⟩
    | nil =>
      have : neD (.tuple []) ∈ ds.map neD := List.mem_map_of_mem hd
      rw [← h1] at this
      obtain ⟨f, f1, f2⟩ := List.mem_map.mp this
      have := List.all_eq_true.mp hall f f1
      rw [f2] at this
      cases this
  have hkeys : ∀ v, v ∈ vs → ∃ a, (dataKind s.heap ds).keyOf v = some a := fun v hv => by
    obtain ⟨d, hd, as, r⟩ := e.left v hv
    exact ⟨_, dataKind_some hal hd r⟩
  have hty : ∀ v ∈ vs, Looks (model prog w) s.heap (typeOf v) (.type "tuple") := fun v hv => by
    obtain ⟨d, hd, as, r⟩ := e.left v hv
    obtain ⟨xs, rfl⟩ := ht d hd
    exact looks_reads r
  by_cases hf : ((fs.toArray)[0]?.bind id).isSome = true
  · refine ⟨hkeys, general', ?_, fun h2' E Q hq => ?_⟩
    · intro E x y a b Q ha hb hq
      obtain ⟨d, as, hd, ra, rfl⟩ := dataKind_inv ha
      obtain ⟨d', as', hd', rb, rfl⟩ := dataKind_inv hb
      obtain ⟨xs, rfl⟩ := ht d hd
      show wpAny (model prog w) A (oneLt' false x y) Q E s
      exact oneLt_alike (fun z => by cases z) ra rb (hal _ hd d' hd') (by intro z; cases z) (room hd) hq
    · rw [kat_kind_eq, List.mapM_toArray, map_eq_pure_bind]
      refine wpAny_bind (wpAny_bind (h2 A E _ (wpAny_pure ?_)))
      rw [if_neg (by rw [hnall]; exact Bool.false_ne_true), if_pos hf]
      exact wpAny_pure hq
  · refine ⟨hkeys, oneType', ?_, fun h2' E Q hq => ?_⟩
    · intro E x y a b Q ha hb hq
      obtain ⟨d, as, hd, ra, rfl⟩ := dataKind_inv ha
      obtain ⟨d', as', hd', rb, rfl⟩ := dataKind_inv hb
      have hdd := hal d hd d' hd'
      have hroom := room (d' := d') hd
      obtain ⟨xs, rfl⟩ := ht d hd
      obtain ⟨ys, rfl⟩ := ht d' hd'
      rw [keyLt'_oneType]
      exact oneLt_tuples ra rb (by simpa [alike] using hdd) hroom hq
    · rw [kat_kind_eq, List.mapM_toArray, map_eq_pure_bind]
      refine wpAny_bind (wpAny_bind (h2 A E _ (wpAny_pure ?_)))
      rw [if_neg (by rw [hnall]; exact Bool.false_ne_true), if_neg hf]
      rw [oneTypeOnly'_eq, List.mapM_toArray, map_eq_pure_bind]
      refine wpAny_bind (wpAny_bind (wpAny_bind (kas_mapM (r := Value.type "tuple") _ (fun v hv Q' hq => (hty v hv).here hq) (wpAny_pure ?_))))
      obtain ⟨v0, vr, rfl⟩ : ∃ v0 vr, vs = v0 :: vr := by
        match vs, h2' with
        | [], h2 => simp at h2
        | v :: r, _ => exact ⟨v, r, rfl⟩
      have hall : ((List.map (fun _ => Value.type "tuple") (v0 :: vr)).toArray.all fun x => x == Value.type "tuple") = true := by
        simp only [List.all_toArray, List.all_map, List.all_eq_true]
        intro _ _
        exact beq_self_eq_true _
      have h0 : (List.map (fun _ => Value.type "tuple") (v0 :: vr)).toArray[0]? = some (Value.type "tuple") := by simp
      rw [h0]
      simp only [hall, if_true]
      exact wpAny_pure (wpAny_pure hq)
end
end Mir
namespace Mir
open PySem PySem.Spec L2
abbrev sortedD (ds : List D) : List D := ds.mergeSort (PySem.W.dataLe false id)
def tupB : D → Bool
  | .tuple _ => true
  | _ => false
def plainB : D → Bool
  | .tuple _ => false
  | .none => false
  | _ => true
def sortOk (ds : List D) : Bool := (ds.all fun d => ds.all fun e => PySem.W.alike d e) && (ds.all tupB || ds.all plainB) && (ds.all fun d => decide (d.depth ≤ 130))
def gSorted : List D → Option Ow
  | [.list ds] => if sortOk ds = true then some (.l ((sortedD ds).map Ow.d)) else none
  | _ => none
def rSortD (K : Kw) : List V → Hp → VK → Prop := fun vs H Q => ∃ (a : Addr) (xs : List V) (ds : List D) (T : V → D → Prop), vs = [V.ref a] ∧ SqL K H a xs ∧ DpAll K H xs ds ∧ sortOk ds = true ∧ PySem.W.EachIs T xs ds ∧
  ∀ (ys : List V) (p : Addr), H p = none → PySem.W.EachIs T ys (sortedD ds) → Q (.ref p) (upd H p (.lst ys))
section
variable {X : Cx} {W : WX}
theorem each_vals {T : V → D → Prop} : ∀ {xs : List V} {vs : List Value} {ds : List D}, Vals xs vs → PySem.W.EachIs T xs ds → PySem.W.EachIs (fun v d => ∃ x, RelV x v ∧ T x d) vs ds
  | _, _, _, .nil, .nil => .nil
  | _, _, _, .cons r t, .cons h g => .cons ⟨_, r, h⟩ (each_vals t g)
theorem vals_each {T : V → D → Prop} : ∀ {vs : List Value} {ds : List D}, PySem.W.EachIs (fun v d => ∃ x, RelV x v ∧ T x d) vs ds → ∃ xs, Vals xs vs ∧ PySem.W.EachIs T xs ds
  | _, _, .nil => ⟨[], .nil, .nil⟩
  | _, _, .cons ⟨x, r, h⟩ g => by
    obtain ⟨xs, a, b⟩ := vals_each g
    exact ⟨x :: xs, .cons r a, .cons h b⟩
mutual
theorem Dp.kit_alike {K : Kw} {H : Hp} : ∀ (d : D) (v : V), Dp K H v d → PySem.W.alike d d = true → L2.Dp K H v d
  | .none, _, h, _ => by cases h; exact .non
  | .bool b, _, h, _ => by cases h; exact .bl b
  | .int b, _, h, _ => by cases h; exact .int b
  | .str b, _, h, _ => by cases h; exact .str b
  | .list ds, _, h, c => by
    cases h with
    | lst hs ha => exact .lst hs (DpAll.kit_alike ds _ ha (by rw [PySem.W.alike] at c; exact c))
  | .tuple ds, _, h, c => by
    cases h with
    | tup hs ha => exact .tup hs (DpAll.kit_alike ds _ ha (by rw [PySem.W.alike] at c; exact c))
  | .dict _, _, _, c => by simp [PySem.W.alike] at c
theorem DpAll.kit_alike {K : Kw} {H : Hp} : ∀ (ds : List D) (vs : List V), DpAll K H vs ds → PySem.W.alikeAll ds ds = true → L2.DpAll K H vs ds
  | [], _, h, _ => by cases h; exact .nil
  | d :: ds, _, h, c => by
    rw [PySem.W.alikeAll, Bool.and_eq_true] at c
    cases h with
    | cons h1 h2 => exact .cons (Dp.kit_alike d _ h1 c.1) (DpAll.kit_alike ds _ h2 c.2)
end
theorem each_reads {pins : List (Addr × Obj)} {s : Shared} {σ : L2.St} {H : Hp} (I : Inv X pins σ H s) : ∀ {xs : List V} {vs : List Value} {ds : List D}, Vals xs vs → DpAll X.KK H xs ds → (∀ d ∈ ds, PySem.W.alike d d = true) → PySem.W.EachIs (fun v d => ∃ as, PySem.Reads s.heap v d as) vs ds
  | _, _, _, .nil, h, _ => by cases h; exact .nil
  | _, _, _, .cons r t, h, c => by
    cases h with
    | cons h1 h2 => exact .cons (L2.Dp.reads I _ _ _ (Dp.kit_alike _ _ h1 (c _ List.mem_cons_self)) r) (each_reads I t h2 fun d hd => c d (List.mem_cons_of_mem _ hd))
theorem sortOk_cases {ds : List D} (h : sortOk ds = true) : PySem.W.AllAlike ds ∧ ((∀ d, d ∈ ds → ∃ xs, d = .tuple xs) ∨ ∀ d, d ∈ ds → d ≠ .none ∧ ∀ xs, d ≠ .tuple xs) ∧ ∀ d, d ∈ ds → d.depth ≤ 130 := by
  unfold sortOk at h
  simp only [Bool.and_eq_true, Bool.or_eq_true, List.all_eq_true, decide_eq_true_eq] at h
  obtain ⟨⟨h1, h2⟩, h3⟩ := h
  refine ⟨h1, h2.imp (fun h d hd => ?_) (fun h d hd => ?_), h3⟩
  · have := h d hd
    cases d <;> first | exact ⟨_, rfl⟩ | cases this
  · have := h d hd
    cases d with
    | none => cases this
    | tuple _ => cases this
    | _ => exact ⟨nofun, nofun⟩
theorem cr_sortD (hu : X.A.units + 140 < cLine) : CallR X (.builtin "sorted") (rSortD X.KK) := by
  intro pins s σ H vs us Q I r h
  obtain ⟨a, xs, ds, T, rfl, hs, hx, ok, hT, q⟩ := h
  obtain ⟨its, rv, hl, hz⟩ := I.list hs
  rw [Vals.ref1 r]
  obtain ⟨hal, hk, hd⟩ := sortOk_cases ok
  have er := each_reads I rv hx fun d hd => hal d hd d hd
  have e := each_vals rv hT
  have hL : its.length ≤ sizeLine := by rw [← rv.length]; exact hz
  have fin : ∀ out, out.length = ds.length → PySem.W.EachIs (fun v d => ∃ x, RelV x v ∧ T x d) out (sortedD ds) → EP X pins σ Q (.ref (s.heap.objs.size + 1)) { s with heap := PyProof.Rows.sortedAll s.heap its out.toArray } := fun out h1 h2 => by
    obtain ⟨ys, h3, h4⟩ := vals_each h2
    have hn : H (s.heap.objs.size + 1) = none := I.hok.fresh (Nat.le_succ _)
    obtain ⟨n, hn2⟩ := PyProof.Rows.sortedAll_at s.heap its out.toArray
    refine ⟨.ref (s.heap.objs.size + 1), upd H (s.heap.objs.size + 1) (.lst ys), I.laid (t' := s.toks) (fun b o e => PyProof.Rows.sortedAll_old e) (Nat.le_succ _) ⟨?_, out, n, h3, hn2⟩, rfl, q ys _ hn h4⟩
    rw [h3.length, h1, ← er.length]
    exact hL
  have er' : PySem.W.EachIs (fun v b => ∃ as, PySem.Reads (PySem.W.sortingHeap (PySem.W.copyHeap s.heap its) (s.heap.objs.size + 1) its) v (id b) as) its ds := er.mono fun _ _ ⟨as, r⟩ => ⟨as, PyProof.Rows.Reads.keeps (fun _ _ => PySem.W.sorting_copy_old) r⟩
  have hb : ∀ d, d ∈ ds → X.A.in1.in1.units + d.depth < cLine := fun d m => by
    have := hd d m
    show X.A.units + 1 + 1 + d.depth < cLine
    omega
  refine PySem.W.sorted_vals (κ := PySem.W.dataKind (PySem.W.sortingHeap (PySem.W.copyHeap s.heap its) (s.heap.objs.size + 1) its) ds) hl.isList ?_ hL (fin _ ?_ ?_)
  · rcases hk with hk | hk
    · exact sortsAt_tuples (s := { s with heap := PySem.W.sortingHeap (PySem.W.copyHeap s.heap its) (s.heap.objs.size + 1) its }) er' hal hk hb
    · exact PySem.W.SortsAt.data (s := { s with heap := PySem.W.sortingHeap (PySem.W.copyHeap s.heap its) (s.heap.objs.size + 1) its }) er' hal (.inr hk) hb
  · rw [PySem.W.sortVals_length false rfl]; exact er.length
  · have z := PySem.W.sortVals_data (enc := (id : D → D)) (bs := ds) false e er' (by simpa using hal)
    simpa using z
theorem each_dpAll {F : Hp} : ∀ {xs : List V} {ds : List D}, DpAll X.KK F xs ds → PySem.W.EachIs (Dp X.KK F) xs ds
  | _, [], h => by cases h; exact .nil
  | _, d :: ds, h => by
    cases h with
    | cons h1 h2 => exact .cons h1 (each_dpAll h2)
theorem dpAll_each {F : Hp} : ∀ {xs : List V} {ds : List D}, PySem.W.EachIs (Dp X.KK F) xs ds → DpAll X.KK F xs ds
  | _, _, .nil => .nil
  | _, _, .cons h g => .cons h (dpAll_each g)
theorem caG_sorted : CaG X.KK (rSortD X.KK) gSorted := by
  intro F H vs ds o Q s h e q
  unfold gSorted at e
  split at e
  · split at e
    · rename_i es c
      cases e
      obtain ⟨v, rfl, p, ws, rfl, p1, p2⟩ := psqs1 h
      refine ⟨p, ws, es, Dp X.KK F, rfl, p1, dpaUp p2 s, c, each_dpAll p2, fun ys a ha hy => ?_⟩
      exact q _ _ _ (Ext.own s ha _) (own_l s ha (dpAll_each hy))
    · cases e
  · cases e
theorem de_sorted {x : Expr} {p pos : Pos} {f : Ev → R (List D)} (hu : X.A.units + 140 < cLine) (hg : Gl X "sorted") (hm : X.mg "sorted" = none) (ha : DAl X W [x] f) (he : starEach [x] X.env = (false, eval x X.env) :: starEach [] X.env := by rfl) : DE X W (.Call (.Name "sorted" p) [x] [] pos) (eCa gSorted f) :=
  de_callB (cr_sortD hu) caG_sorted hg hm (by first | rfl | decide +kernel) ha (he := he)
end
end Mir
end
set_option Elab.async false
set_option linter.all false
set_option maxRecDepth 100000
set_option maxHeartbeats 4000000
noncomputable section
namespace Mir
open PySem PySem.Spec L2

open Classical in
section
variable {X : Cx} {W : WX} {S : Nat → Bool} {pos npos : Pos} {x : Str} {fs : Ev → SR}
end
end Mir
end
set_option Elab.async false
set_option linter.all false
set_option maxRecDepth 100000
set_option maxHeartbeats 4000000
noncomputable section
namespace Mir
open PySem PySem.Spec L2

def spL (K : Kw) (m : List D → R Ow) : Sp := fun vs H Q _ => ∃ F ds r, Same F H ∧ DpAll K F vs ds ∧ ds.length = 1 ∧ m ds = .ok r ∧ ∀ v F' H', Ext F H F' H' → POw K H r v F' H' → Q v H'
theorem fnOk_spL {P : Program} {w : World} {K : PySem.W.Frag} {mg : Str → Option Value} {base : Heap} {CX : CXT} {k : Nat} {f : Addr} {fd : FuncData} {ps : List Str} {m : List D → R Ow} (h : FnOk P w K mg base CX k f fd ps (spM ⟨K, w⟩ mg 1 m)) : FnOk P w K mg base CX k f fd ps (spL ⟨K, w⟩ m) :=
  h.imp fun vs H Q E ⟨F, ds, r, h1, h2, h3, h4, h5⟩ => ⟨F, ds, h1, h2, h3, by rw [h4]; exact h5⟩
theorem law_end {l : PySem.W.OpenLaw} {q : Program} {loose : List Str} {XP : (Str → Option Value) → Heap → Prop} {YP : World → Heap → Prop} {d : DefRec} {K : Params → PySem.W.Frag} {m : List D → R Ow} (k : Nat) (x : Str) (hn : l.most = some 63) (hdf : d.params.defaults = []) (hr : Room k callerA)
    (hY : ∀ (w : World) (h : Heap), YP w h → (K w.params).In h)
    (hm : ∀ ns : List Int, ns.length ≤ 63 → (∀ z ∈ ns, Builtin.Int.intBits z ≤ 1048576) → m [.list (ns.map .int)] = .ok (.d (.bool true)))
    (F : ∀ (w : World) (mg : Str → Option Value) (fa : Addr) (h : Heap), (K w.params).In h → h.Ns PySem.mainGlobals mg → mg d.name = some (.ref fa) →
      ∃ fd : FuncData, (∀ (s : Shared) (u : Value), BindsTo s fd ⟨[u], []⟩ [(x, u)]) ∧ ∀ base : Heap, (K w.params).In base → base.Ns PySem.mainGlobals mg → FnOk l.prog w (K w.params) mg base (L2.CX l.prog w) k fa fd [x] (spM ⟨K w.params, w⟩ mg 1 m)) :
    PySem.W.WalkO q loose XP YP l.row.toRowW d [] (fun f vs => PySem.call f vs) := by
  refine L2.walk_ofB (n := 63) (k := k) (x := x) (CX := fun w => L2.CX l.prog w) (sp := fun w => spL ⟨K w.params, w⟩ m) hn (by decide) hdf hr hY (fun w mg fa h a b c => ?_) (fun w H a ns hl hb _ hS => ?_) fun w H s e s' z => ?_
  · obtain ⟨fd, h1, h2⟩ := F w mg fa h a b c
    exact ⟨fd, h1, fun base p q => fnOk_spL (h2 base p q)⟩
  · refine ⟨H, [.list (ns.map .int)], _, Same.refl _, .cons (.lst hS (DpAll.of_ints ns)) .nil, rfl, hm ns hl hb, fun v F' H' _ ⟨fp, ow, _⟩ => ?_⟩
    cases ow with
    | d h => cases h; rfl
  · obtain ⟨_, _, _, _, _, _, _, _, _, _, _, _, z⟩ := z
    exact z
theorem room_eq {k : Nat} {A : Around} (r : Room k A) : A.units + 140 < cLine := by have := r.un; omega
end Mir
end
set_option Elab.async false
set_option linter.all false
set_option maxRecDepth 100000
set_option maxHeartbeats 4000000
noncomputable section
namespace Mir
open PySem PySem.Spec L2
section
variable {X : Cx} {W : WX} {S : Nat → Bool}
def gAddA : D → D → Option D
  | .int i, .int j => some (.int (i + j))
  | .str x, .str y => if x.length + y.length ≤ sizeLine then some (.str (x ++ y)) else none
  | _, _ => none
/-- name = [..], the list made data -/
theorem ds_setLcF {elt tg iter : Expr} {ifs : List Expr} {scope : Scope} {own : List (Str × Nat)} {g : D → Ev → Option Ev} {fi : Ev → R (List D)} {fc : Ev → R Bool} {fe : Ev → R Ow} {ix : List Nat} {y : Str} {py spos pos : Pos} (i : Nat) (hc : X.calm = true) (hN : X.N.Nodup) (hi : DI X W tg iter fi) (ok : BlkOk X.N X.env.scope scope own)
    (hg : ∀ (s : Shared) (H : Hp) (C : Addr) (cl : List (Str × Addr)) (fp : List Addr), DG (X.blk s H scope (compEnvC scope cl C X.env) fp) tg ix g) (ht : ∀ (s : Shared) (H : Hp) (C : Addr) (cl : List (Str × Addr)) (fp : List Addr), DTs (X.blk s H scope (compEnvC scope cl C X.env) fp) W0 ifs fc)
    (he : ∀ (s : Shared) (H : Hp) (C : Addr) (cl : List (Str × Addr)) (fp : List Addr), DE (X.blk s H scope (compEnvC scope cl C X.env) fp) W0 elt fe) (hix : ∀ i ∈ ix, i ∈ own.map (·.2) := by decide) (hs : ∀ x, foldedSetIterable iter X.env x = pure x := by intro _; rfl)
    (hy : X.N[i]? = some y := by rfl) (hyl : X.env.scope.names.lookup y = some .local := by rfl) (hsw : swapsWith (.ListComp elt [⟨tg, iter, ifs, 0⟩] scope pos) (some (.Name y py)) spos.line X.env = pure true := by exact sw_true rfl rfl rfl (by decide +kernel)) (hS : S i = true := by rfl) :
    DS X W S (.Assign [.Name y py] (.ListComp elt [⟨tg, iter, ifs, 0⟩] scope pos) spos) (sSet i (eM (eM (eLc fi g fc fe (own.map (·.2))) viewD) Ow.d)) := by
  obtain ⟨wi, pi, si⟩ := hi
  refine ⟨_, ps_setLc (g := tgOf X.KK ix g) (tt := tOf X.KK (Post X W0 PTb) fc) (te := tOf X.KK (Post X W0 (POw X.KK)) fe) hc hN hy hyl hsw pi ok (fun s H C cl fp => hg s H C cl fp) (fun s H C cl fp => (ht s H C cl fp).can) (fun s H C cl fp => (he s H C cl fp).can) hs, fun F H σ env fp D sat h => ?_⟩
  refine de_lc_core si hix F H σ env fp _ sat ?_
  unfold sSet eM at h
  cases e : eLc fi g fc fe (own.map (·.2)) env with
  | no => rw [e] at h; exact h
  | ex c => rw [e] at h; exact fun C F' H' m x => h C σ F' H' fp m (.refl _ _) (StepS.of_ext x fp) (sat.ext x)
  | ok r =>
    rw [e] at h
    intro v F' H' x ⟨fx, q, nd, n⟩
    have h' : PostS X W S σ F H fp D (if i < env.length then .nx (env.set i (some (.d (viewD r)))) else .no) := h
    split at h'
    · obtain ⟨F2, x2, q2⟩ := x.freeze q n
      obtain ⟨fp', s1, s2⟩ := put_step sat x2 (.d q2) List.nodup_nil (fun _ z => nomatch z) ‹_›
      exact h' _ F2 H' fp' (.set hS _) s1 s2
    · exact h'.elim
end
end Mir
end
set_option Elab.async false
set_option linter.all false
set_option maxRecDepth 100000
set_option maxHeartbeats 4000000
noncomputable section
namespace Mir
open PySem PySem.Spec L2

section
variable {α β γ : Type} (env : Ev)
@[simp] theorem eB_eq (f : Ev → R α) (g : α → R β) : eB f g env = (f env).bind g := rfl
@[simp] theorem eM_eq (f : Ev → R α) (g : α → β) : eM f g env = (f env).map g := rfl
@[simp] theorem eC_eq (d : D) : eC d env = .ok d := rfl
@[simp] theorem aNil_eq : aNil env = .ok [] := rfl
@[simp] theorem aCons_eq (f : Ev → R D) (g : Ev → R (List D)) : aCons f g env = (f env).bind fun d => (g env).map fun ds => d :: ds := rfl
@[simp] theorem eTup_eq (f : Ev → R (List D)) : eTup f env = (f env).bind fun ds => guard (ds.length ≤ sizeLine) (.ok (.tuple ds)) := rfl
@[simp] theorem eLst_eq (f : Ev → R (List D)) : eLst f env = (f env).bind fun ds => guard (ds.length ≤ sizeLine) (.ok (.l (ds.map Ow.d))) := rfl
@[simp] theorem eBin_eq (g : D → D → Option D) (f h : Ev → R D) : eBin g f h env = (f env).bind fun x => (h env).bind fun y => R.of (g x y) := rfl
@[simp] theorem eBinO_eq (g : D → D → Option Ow) (f h : Ev → R D) : eBinO g f h env = (f env).bind fun x => (h env).bind fun y => R.of (g x y) := rfl
@[simp] theorem eCa_eq (g : List D → Option Ow) (f : Ev → R (List D)) : eCa g f env = (f env).bind fun ds => R.of (g ds) := rfl
@[simp] theorem eNot_eq (f : Ev → R D) : eNot f env = ((f env).bind asB).bind fun b => .ok (.bool !b) := rfl
@[simp] theorem eAnd_eq (f g : Ev → R D) : eAnd f g env = ((f env).bind asB).bind fun b => if b = true then g env else .ok (.bool false) := rfl
@[simp] theorem eOr_eq (f g : Ev → R D) : eOr f g env = ((f env).bind asB).bind fun b => if b = true then .ok (.bool true) else g env := rfl
@[simp] theorem eIf_eq (c : Ev → R Bool) (f g : Ev → R D) : eIf c f g env = (c env).bind fun b => if b = true then f env else g env := rfl
@[simp] theorem tNotE_eq (f : Ev → R Bool) : tNotE f env = (f env).map (!·) := rfl
@[simp] theorem tAndE_eq (f g : Ev → R Bool) : tAndE f g env = (f env).bind fun b => if b = true then g env else .ok false := rfl
@[simp] theorem tOrE_eq (f g : Ev → R Bool) : tOrE f g env = (f env).bind fun b => if b = true then .ok true else g env := rfl
@[simp] theorem eRep_eq (f : Ev → R Ow) (g : Ev → R D) : eRep f g env = (f env).bind fun o => (g env).bind fun d => repO o d := rfl
@[simp] theorem eIxO_eq (f : Ev → R Ow) (g : Ev → R D) : eIxO f g env = (f env).bind fun o => (g env).bind fun d => ixO o d := rfl
@[simp] theorem eSl_eq (f : Ev → R D) (l h : Ev → R (Option Int)) : eSl f l h env = (f env).bind fun x => (l env).bind fun i => (h env).bind fun j => R.of (gSl x i j) := rfl
@[simp] theorem oNone_eq : oNone env = .ok none := rfl
@[simp] theorem asI_eq (i : Int) : asI (.int i) = .ok (some i) := rfl
@[simp] theorem cYes_eq : cYes env = .ok true := rfl
@[simp] theorem eVar_0 (x : D) : eVar 0 (some (.d x) :: env) = .ok x := rfl
@[simp] theorem eVarO_0 (x : Ow) : eVarO 0 (some x :: env) = .ok x := rfl
@[simp] theorem eVar_s (i : Nat) (x : Option Ow) : eVar (i + 1) (x :: env) = eVar i env := by unfold eVar; rw [List.getElem?_cons_succ]
@[simp] theorem eVarO_s (i : Nat) (x : Option Ow) : eVarO (i + 1) (x :: env) = eVarO i env := by unfold eVarO; rw [List.getElem?_cons_succ]
@[simp] theorem eVar_1 (a : Option Ow) (x : D) : eVar 1 (a :: some (.d x) :: env) = .ok x := rfl
@[simp] theorem eVar_2 (a b : Option Ow) (x : D) : eVar 2 (a :: b :: some (.d x) :: env) = .ok x := rfl
@[simp] theorem eVar_3 (a b c : Option Ow) (x : D) : eVar 3 (a :: b :: c :: some (.d x) :: env) = .ok x := rfl
@[simp] theorem eVar_4 (a b c d : Option Ow) (x : D) : eVar 4 (a :: b :: c :: d :: some (.d x) :: env) = .ok x := rfl
@[simp] theorem eVar_5 (a b c d e : Option Ow) (x : D) : eVar 5 (a :: b :: c :: d :: e :: some (.d x) :: env) = .ok x := rfl
@[simp] theorem eVar_6 (a b c d e f : Option Ow) (x : D) : eVar 6 (a :: b :: c :: d :: e :: f :: some (.d x) :: env) = .ok x := rfl
@[simp] theorem eVar_7 (a b c d e f g : Option Ow) (x : D) : eVar 7 (a :: b :: c :: d :: e :: f :: g :: some (.d x) :: env) = .ok x := rfl
@[simp] theorem eVar_8 (a b c d e f g h : Option Ow) (x : D) : eVar 8 (a :: b :: c :: d :: e :: f :: g :: h :: some (.d x) :: env) = .ok x := rfl
@[simp] theorem eVar_9 (a b c d e f g h i : Option Ow) (x : D) : eVar 9 (a :: b :: c :: d :: e :: f :: g :: h :: i :: some (.d x) :: env) = .ok x := rfl
@[simp] theorem eVarO_1 (a : Option Ow) (x : Ow) : eVarO 1 (a :: some x :: env) = .ok x := rfl
@[simp] theorem eVarO_2 (a b : Option Ow) (x : Ow) : eVarO 2 (a :: b :: some x :: env) = .ok x := rfl
@[simp] theorem eVarO_3 (a b c : Option Ow) (x : Ow) : eVarO 3 (a :: b :: c :: some x :: env) = .ok x := rfl
@[simp] theorem eVarO_4 (a b c d : Option Ow) (x : Ow) : eVarO 4 (a :: b :: c :: d :: some x :: env) = .ok x := rfl
@[simp] theorem eVarO_5 (a b c d e : Option Ow) (x : Ow) : eVarO 5 (a :: b :: c :: d :: e :: some x :: env) = .ok x := rfl
@[simp] theorem eVarO_6 (a b c d e f : Option Ow) (x : Ow) : eVarO 6 (a :: b :: c :: d :: e :: f :: some x :: env) = .ok x := rfl
@[simp] theorem eVarO_7 (a b c d e f g : Option Ow) (x : Ow) : eVarO 7 (a :: b :: c :: d :: e :: f :: g :: some x :: env) = .ok x := rfl
@[simp] theorem sSkip_eq : sSkip env = .nx env := rfl
@[simp] theorem sSeq_eq (f g : Ev → SR) : sSeq f g env = (f env).andThen g := rfl
@[simp] theorem sSet_eq (i : Nat) (f : Ev → R Ow) : sSet i f env = (f env).st env fun r => if i < env.length then .nx (env.set i (some r)) else .no := rfl
@[simp] theorem sRet_eq (f : Ev → R Ow) : sRet f env = (f env).st env fun r => .rt r env := rfl
@[simp] theorem sRetN_eq : sRetN env = .rt (.d .none) env := rfl
@[simp] theorem sIf_eq (c : Ev → R Bool) (f g : Ev → SR) : sIf c f g env = (c env).st env fun b => if b = true then f env else g env := rfl
@[simp] theorem sFor_eq (it : Ev → R (List D)) (g : D → Ev → Option Ev) (f : Ev → SR) : sFor it g f env = (it env).st env fun ds => forL g f ds env := rfl
@[simp] theorem sDrop_eq (f : Ev → R D) : sDrop f env = (f env).st env fun _ => .nx env := rfl
@[simp] theorem sAug_eq (h : D → D → Option D) (i : Nat) (f : Ev → R D) : sAug h i f env = (((eVar i env).bind fun x => (f env).bind fun y => R.of (h x y)).st env fun d => if i < env.length then .nx (env.set i (some (.d d))) else .no) := rfl
@[simp] theorem sAsg_eq (g : D → Ev → Option Ev) (f : Ev → R D) : sAsg g f env = (f env).st env fun d => match g d env with
  | some env' => .nx env'
  | none => .no := rfl
@[simp] theorem sApp_eq (i : Nat) (f : Ev → R Ow) : sApp i f env = ownL i env fun os => (f env).st env fun r => if os.length < sizeLine then .nx (env.set i (some (.l (os ++ [r])))) else .no := rfl
@[simp] theorem sExt_eq (i : Nat) (f : Ev → R D) : sExt i f env = ownL i env fun os => (f env).st env fun d => (asL d).st env fun ds => if os.length + ds.length ≤ sizeLine then .nx (env.set i (some (.l (os ++ ds.map Ow.d)))) else .no := rfl
@[simp] theorem sPut_eq (i : Nat) (f : Ev → R Ow) (g : Ev → R D) : sPut i f g env = (f env).st env fun r => ownL i env fun os => (g env).st env (putAt i env os r) := rfl
@[simp] theorem ownL_0 (os : List Ow) (k : List Ow → SR) : ownL 0 (some (.l os) :: env) k = k os := rfl
@[simp] theorem ownL_1 (a : Option Ow) (os : List Ow) (k : List Ow → SR) : ownL 1 (a :: some (.l os) :: env) k = k os := rfl
@[simp] theorem ownL_2 (a b : Option Ow) (os : List Ow) (k : List Ow → SR) : ownL 2 (a :: b :: some (.l os) :: env) k = k os := rfl
@[simp] theorem ownL_3 (a b c : Option Ow) (os : List Ow) (k : List Ow → SR) : ownL 3 (a :: b :: c :: some (.l os) :: env) k = k os := rfl
@[simp] theorem ownL_4 (a b c d : Option Ow) (os : List Ow) (k : List Ow → SR) : ownL 4 (a :: b :: c :: d :: some (.l os) :: env) k = k os := rfl
@[simp] theorem ownL_5 (a b c d e : Option Ow) (os : List Ow) (k : List Ow → SR) : ownL 5 (a :: b :: c :: d :: e :: some (.l os) :: env) k = k os := rfl
@[simp] theorem ownL_6 (a b c d e f : Option Ow) (os : List Ow) (k : List Ow → SR) : ownL 6 (a :: b :: c :: d :: e :: f :: some (.l os) :: env) k = k os := rfl
@[simp] theorem gtName_eq (i : Nat) (d : D) : gtName i d env = if i < env.length then some (env.set i (some (.d d))) else none := rfl
@[simp] theorem gtTup_eq (n : Nat) (h : List D → Ev → Option Ev) (ds : List D) : gtTup n h (.tuple ds) env = if ds.length = n then h ds env else none := rfl
@[simp] theorem gtCons_eq (g : D → Ev → Option Ev) (h : List D → Ev → Option Ev) (d : D) (ds : List D) : gtCons g h (d :: ds) env = (g d env).bind (h ds) := rfl
@[simp] theorem gtNil_eq : gtNil [] env = some env := rfl
theorem guard_ok {c : Prop} {r : R α} (h : c) : guard c r = r := guard_pos h
@[simp] theorem guard_true {r : R α} : guard True r = r := guard_pos trivial
@[simp] theorem guard_small {a : Nat} {r : R α} (h : a ≤ sizeLine) : guard (a ≤ sizeLine) r = r := guard_pos h
end
@[simp] theorem gAddA_int (i j : Int) : gAddA (.int i) (.int j) = some (.int (i + j)) := rfl
@[simp] theorem gEq_int (i j : Int) : gEq (.int i) (.int j) = some (.bool (i == j)) := rfl
@[simp] theorem gNe_int (i j : Int) : gNe (.int i) (.int j) = some (.bool (!(i == j))) := rfl
@[simp] theorem gNeg_int (i : Int) : gNeg (.int i) = .ok (.int (-i)) := rfl
@[simp] theorem gIx_lst (ds : List D) (i : Int) : gIx (.list ds) (.int i) = atI ds i := rfl
@[simp] theorem gIsi_int_int (i : Int) : gIsi "int" (.int i) = .ok (.bool true) := by rfl
@[simp] theorem gIsi_bool_int (i : Int) : gIsi "bool" (.int i) = .ok (.bool false) := by first | rfl | decide +kernel | kernel_rfl
@[simp] theorem gIsi_list_list (ds : List D) : gIsi "list" (.list ds) = .ok (.bool true) := by rfl
@[simp] theorem gIsi_tup_tup (ds : List D) : gIsi "tuple" (.tuple ds) = .ok (.bool true) := by rfl
@[simp] theorem ixO_l (os : List Ow) (k : Int) : ixO (.l os) (.int k) = match atI os k with
    | some o => .ok o
    | none => .no := rfl
@[simp] theorem R.st_no {α : Type} (env : Ev) (f : α → SR) : (R.no : R α).st env f = .no := rfl
theorem atI_natD {α : Type} {xs : List α} {k : Nat} {x : α} (h : xs[k]? = some x) : atI xs (k : Int) = some x := by
  unfold atI ixN
  have hl := (List.getElem?_eq_some_iff.mp h).1
  rw [if_pos (by omega), if_pos (by omega)]
  simpa using h
@[simp] theorem atI_0 {α : Type} (x : α) (xs : List α) : atI (x :: xs) 0 = some x := atI_natD (k := 0) rfl
@[simp] theorem atI_1 {α : Type} (x y : α) (xs : List α) : atI (x :: y :: xs) 1 = some y := atI_natD (k := 1) rfl
@[simp] theorem atI_2 {α : Type} (x y z : α) (xs : List α) : atI (x :: y :: z :: xs) 2 = some z := atI_natD (k := 2) rfl
@[simp] theorem atI_3 {α : Type} (x y z u : α) (xs : List α) : atI (x :: y :: z :: u :: xs) 3 = some u := atI_natD (k := 3) rfl
@[simp] theorem atI_4 {α : Type} (x y z u v : α) (xs : List α) : atI (x :: y :: z :: u :: v :: xs) 4 = some v := atI_natD (k := 4) rfl
theorem forL_ind {g : D → Ev → Option Ev} {f : Ev → SR} (items : List D) (I : Nat → Ev → Prop) (step : ∀ i d env, items[i]? = some d → I i env → ∃ env1, g d env = some env1 ∧ ∃ env2, (f env1 = .nx env2 ∨ f env1 = .ct env2) ∧ I (i + 1) env2) :
    ∀ env, I 0 env → ∃ env', forL g f items env = .nx env' ∧ I items.length env' := by
  suffices h : ∀ (ds : List D) (k : Nat) (env : Ev), items.drop k = ds → k ≤ items.length → I k env → ∃ env', forL g f ds env = .nx env' ∧ I items.length env' from fun env h0 => h items 0 env rfl (Nat.zero_le _) h0
  intro ds
  induction ds with
  | nil =>
    intro k env hd hk h
    have : k = items.length := by
      have := congrArg List.length hd
      simp at this
      omega
    subst this
    exact ⟨env, rfl, h⟩
  | cons d ds ih =>
    intro k env hd hk h
    have hk' : k < items.length := by
      have := congrArg List.length hd
      simp at this
      omega
    rw [List.drop_eq_getElem_cons hk'] at hd
    obtain ⟨e1, e2⟩ := List.cons.inj hd
    obtain ⟨env1, g1, env2, g2, g3⟩ := step k d env (by rw [List.getElem?_eq_getElem hk', e1]) h
    obtain ⟨env', r1, r2⟩ := ih (k + 1) env2 e2 hk' g3
    refine ⟨env', ?_, r2⟩
    unfold forL
    rw [g1]
    rcases g2 with g2 | g2 <;> (simp only; rw [g2]; exact r1)
theorem eLc_of {fi : Ev → R (List D)} {g : D → Ev → Option Ev} {c : Ev → R Bool} {e : Ev → R Ow} {vs : List Nat} {env : Ev} {ds : List D} {rs : List Ow} (h1 : fi env = .ok ds) (hl : ds.length ≤ sizeLine) (h2 : lcR g c e (wipeE env vs) ds = .ok rs) : eLc fi g c e vs env = .ok (.l rs) := by
  unfold eLc
  rw [h1, R.bind_ok, guard_ok hl, h2]
  rfl
def finR : SR → R Ow
  | .nx _ => .ok (.d .none)
  | .rt r _ => .ok r
  | .ex c _ => .ex c
  | _ => .no
theorem runB_fin (k : Nat) (f : Ev → SR) (ds : List D) : runB k f ds = finR (f (envOf k ds)) := by
  unfold runB
  cases f (envOf k ds) <;> rfl
@[simp] theorem finR_nx (env : Ev) : finR (.nx env) = .ok (.d .none) := rfl
@[simp] theorem finR_rt (r : Ow) (env : Ev) : finR (.rt r env) = .ok r := rfl
@[simp] theorem finR_ex (c : Str) (env : Ev) : finR (.ex c env) = .ex c := rfl
@[simp] theorem finR_no : finR .no = .no := rfl
@[simp] theorem envOf_nil (k : Nat) : envOf k [] = List.replicate k none := rfl
@[simp] theorem envOf_cons (k : Nat) (d : D) (ds : List D) : envOf k (d :: ds) = some (.d d) :: envOf k ds := rfl
end Mir
end
set_option Elab.async false
set_option linter.all false
set_option maxRecDepth 100000
set_option maxHeartbeats 4000000
noncomputable section
namespace Mir
open PySem PySem.Spec L2

section
variable {X : Cx} {W : WX} {S : Nat → Bool}
def sNo (_ : Ev) : SR := .no
open Classical in
variable {a b : Expr} {pos : Pos} {f g : Ev → R D}
end
@[simp] theorem sNo_eq (env : Ev) : sNo env = .no := rfl
end Mir
end
set_option Elab.async false
set_option linter.all false
set_option maxRecDepth 100000
noncomputable section
namespace Mir
open PySem PySem.Spec L2
@[simp] theorem ownL_7 (a0 a1 a2 a3 a4 a5 a6 : Option Ow) (os : List Ow) (env : Ev) (k : List Ow → SR) : ownL 7 (a0 :: a1 :: a2 :: a3 :: a4 :: a5 :: a6 :: some (.l os) :: env) k = k os := rfl
@[simp] theorem eVarO_8 (a0 a1 a2 a3 a4 a5 a6 a7 : Option Ow) (x : Ow) (env : Ev) : eVarO 8 (a0 :: a1 :: a2 :: a3 :: a4 :: a5 :: a6 :: a7 :: some x :: env) = .ok x := rfl
@[simp] theorem ownL_8 (a0 a1 a2 a3 a4 a5 a6 a7 : Option Ow) (os : List Ow) (env : Ev) (k : List Ow → SR) : ownL 8 (a0 :: a1 :: a2 :: a3 :: a4 :: a5 :: a6 :: a7 :: some (.l os) :: env) k = k os := rfl
@[simp] theorem eVarO_9 (a0 a1 a2 a3 a4 a5 a6 a7 a8 : Option Ow) (x : Ow) (env : Ev) : eVarO 9 (a0 :: a1 :: a2 :: a3 :: a4 :: a5 :: a6 :: a7 :: a8 :: some x :: env) = .ok x := rfl
@[simp] theorem ownL_9 (a0 a1 a2 a3 a4 a5 a6 a7 a8 : Option Ow) (os : List Ow) (env : Ev) (k : List Ow → SR) : ownL 9 (a0 :: a1 :: a2 :: a3 :: a4 :: a5 :: a6 :: a7 :: a8 :: some (.l os) :: env) k = k os := rfl
@[simp] theorem eVar_10 (a0 a1 a2 a3 a4 a5 a6 a7 a8 a9 : Option Ow) (x : D) (env : Ev) : eVar 10 (a0 :: a1 :: a2 :: a3 :: a4 :: a5 :: a6 :: a7 :: a8 :: a9 :: some (.d x) :: env) = .ok x := rfl
@[simp] theorem eVarO_10 (a0 a1 a2 a3 a4 a5 a6 a7 a8 a9 : Option Ow) (x : Ow) (env : Ev) : eVarO 10 (a0 :: a1 :: a2 :: a3 :: a4 :: a5 :: a6 :: a7 :: a8 :: a9 :: some x :: env) = .ok x := rfl
@[simp] theorem ownL_10 (a0 a1 a2 a3 a4 a5 a6 a7 a8 a9 : Option Ow) (os : List Ow) (env : Ev) (k : List Ow → SR) : ownL 10 (a0 :: a1 :: a2 :: a3 :: a4 :: a5 :: a6 :: a7 :: a8 :: a9 :: some (.l os) :: env) k = k os := rfl
@[simp] theorem eVar_11 (a0 a1 a2 a3 a4 a5 a6 a7 a8 a9 a10 : Option Ow) (x : D) (env : Ev) : eVar 11 (a0 :: a1 :: a2 :: a3 :: a4 :: a5 :: a6 :: a7 :: a8 :: a9 :: a10 :: some (.d x) :: env) = .ok x := rfl
@[simp] theorem eVarO_11 (a0 a1 a2 a3 a4 a5 a6 a7 a8 a9 a10 : Option Ow) (x : Ow) (env : Ev) : eVarO 11 (a0 :: a1 :: a2 :: a3 :: a4 :: a5 :: a6 :: a7 :: a8 :: a9 :: a10 :: some x :: env) = .ok x := rfl
@[simp] theorem ownL_11 (a0 a1 a2 a3 a4 a5 a6 a7 a8 a9 a10 : Option Ow) (os : List Ow) (env : Ev) (k : List Ow → SR) : ownL 11 (a0 :: a1 :: a2 :: a3 :: a4 :: a5 :: a6 :: a7 :: a8 :: a9 :: a10 :: some (.l os) :: env) k = k os := rfl
@[simp] theorem eVar_12 (a0 a1 a2 a3 a4 a5 a6 a7 a8 a9 a10 a11 : Option Ow) (x : D) (env : Ev) : eVar 12 (a0 :: a1 :: a2 :: a3 :: a4 :: a5 :: a6 :: a7 :: a8 :: a9 :: a10 :: a11 :: some (.d x) :: env) = .ok x := rfl
@[simp] theorem eVarO_12 (a0 a1 a2 a3 a4 a5 a6 a7 a8 a9 a10 a11 : Option Ow) (x : Ow) (env : Ev) : eVarO 12 (a0 :: a1 :: a2 :: a3 :: a4 :: a5 :: a6 :: a7 :: a8 :: a9 :: a10 :: a11 :: some x :: env) = .ok x := rfl
@[simp] theorem ownL_12 (a0 a1 a2 a3 a4 a5 a6 a7 a8 a9 a10 a11 : Option Ow) (os : List Ow) (env : Ev) (k : List Ow → SR) : ownL 12 (a0 :: a1 :: a2 :: a3 :: a4 :: a5 :: a6 :: a7 :: a8 :: a9 :: a10 :: a11 :: some (.l os) :: env) k = k os := rfl
@[simp] theorem eVar_13 (a0 a1 a2 a3 a4 a5 a6 a7 a8 a9 a10 a11 a12 : Option Ow) (x : D) (env : Ev) : eVar 13 (a0 :: a1 :: a2 :: a3 :: a4 :: a5 :: a6 :: a7 :: a8 :: a9 :: a10 :: a11 :: a12 :: some (.d x) :: env) = .ok x := rfl
@[simp] theorem eVarO_13 (a0 a1 a2 a3 a4 a5 a6 a7 a8 a9 a10 a11 a12 : Option Ow) (x : Ow) (env : Ev) : eVarO 13 (a0 :: a1 :: a2 :: a3 :: a4 :: a5 :: a6 :: a7 :: a8 :: a9 :: a10 :: a11 :: a12 :: some x :: env) = .ok x := rfl
@[simp] theorem ownL_13 (a0 a1 a2 a3 a4 a5 a6 a7 a8 a9 a10 a11 a12 : Option Ow) (os : List Ow) (env : Ev) (k : List Ow → SR) : ownL 13 (a0 :: a1 :: a2 :: a3 :: a4 :: a5 :: a6 :: a7 :: a8 :: a9 :: a10 :: a11 :: a12 :: some (.l os) :: env) k = k os := rfl
@[simp] theorem eVar_14 (a0 a1 a2 a3 a4 a5 a6 a7 a8 a9 a10 a11 a12 a13 : Option Ow) (x : D) (env : Ev) : eVar 14 (a0 :: a1 :: a2 :: a3 :: a4 :: a5 :: a6 :: a7 :: a8 :: a9 :: a10 :: a11 :: a12 :: a13 :: some (.d x) :: env) = .ok x := rfl
@[simp] theorem eVarO_14 (a0 a1 a2 a3 a4 a5 a6 a7 a8 a9 a10 a11 a12 a13 : Option Ow) (x : Ow) (env : Ev) : eVarO 14 (a0 :: a1 :: a2 :: a3 :: a4 :: a5 :: a6 :: a7 :: a8 :: a9 :: a10 :: a11 :: a12 :: a13 :: some x :: env) = .ok x := rfl
@[simp] theorem ownL_14 (a0 a1 a2 a3 a4 a5 a6 a7 a8 a9 a10 a11 a12 a13 : Option Ow) (os : List Ow) (env : Ev) (k : List Ow → SR) : ownL 14 (a0 :: a1 :: a2 :: a3 :: a4 :: a5 :: a6 :: a7 :: a8 :: a9 :: a10 :: a11 :: a12 :: a13 :: some (.l os) :: env) k = k os := rfl
@[simp] theorem eVar_15 (a0 a1 a2 a3 a4 a5 a6 a7 a8 a9 a10 a11 a12 a13 a14 : Option Ow) (x : D) (env : Ev) : eVar 15 (a0 :: a1 :: a2 :: a3 :: a4 :: a5 :: a6 :: a7 :: a8 :: a9 :: a10 :: a11 :: a12 :: a13 :: a14 :: some (.d x) :: env) = .ok x := rfl
@[simp] theorem eVarO_15 (a0 a1 a2 a3 a4 a5 a6 a7 a8 a9 a10 a11 a12 a13 a14 : Option Ow) (x : Ow) (env : Ev) : eVarO 15 (a0 :: a1 :: a2 :: a3 :: a4 :: a5 :: a6 :: a7 :: a8 :: a9 :: a10 :: a11 :: a12 :: a13 :: a14 :: some x :: env) = .ok x := rfl
@[simp] theorem ownL_15 (a0 a1 a2 a3 a4 a5 a6 a7 a8 a9 a10 a11 a12 a13 a14 : Option Ow) (os : List Ow) (env : Ev) (k : List Ow → SR) : ownL 15 (a0 :: a1 :: a2 :: a3 :: a4 :: a5 :: a6 :: a7 :: a8 :: a9 :: a10 :: a11 :: a12 :: a13 :: a14 :: some (.l os) :: env) k = k os := rfl
@[simp] theorem eVar_16 (a0 a1 a2 a3 a4 a5 a6 a7 a8 a9 a10 a11 a12 a13 a14 a15 : Option Ow) (x : D) (env : Ev) : eVar 16 (a0 :: a1 :: a2 :: a3 :: a4 :: a5 :: a6 :: a7 :: a8 :: a9 :: a10 :: a11 :: a12 :: a13 :: a14 :: a15 :: some (.d x) :: env) = .ok x := rfl
@[simp] theorem eVarO_16 (a0 a1 a2 a3 a4 a5 a6 a7 a8 a9 a10 a11 a12 a13 a14 a15 : Option Ow) (x : Ow) (env : Ev) : eVarO 16 (a0 :: a1 :: a2 :: a3 :: a4 :: a5 :: a6 :: a7 :: a8 :: a9 :: a10 :: a11 :: a12 :: a13 :: a14 :: a15 :: some x :: env) = .ok x := rfl
@[simp] theorem ownL_16 (a0 a1 a2 a3 a4 a5 a6 a7 a8 a9 a10 a11 a12 a13 a14 a15 : Option Ow) (os : List Ow) (env : Ev) (k : List Ow → SR) : ownL 16 (a0 :: a1 :: a2 :: a3 :: a4 :: a5 :: a6 :: a7 :: a8 :: a9 :: a10 :: a11 :: a12 :: a13 :: a14 :: a15 :: some (.l os) :: env) k = k os := rfl
@[simp] theorem eVar_17 (a0 a1 a2 a3 a4 a5 a6 a7 a8 a9 a10 a11 a12 a13 a14 a15 a16 : Option Ow) (x : D) (env : Ev) : eVar 17 (a0 :: a1 :: a2 :: a3 :: a4 :: a5 :: a6 :: a7 :: a8 :: a9 :: a10 :: a11 :: a12 :: a13 :: a14 :: a15 :: a16 :: some (.d x) :: env) = .ok x := rfl
@[simp] theorem eVarO_17 (a0 a1 a2 a3 a4 a5 a6 a7 a8 a9 a10 a11 a12 a13 a14 a15 a16 : Option Ow) (x : Ow) (env : Ev) : eVarO 17 (a0 :: a1 :: a2 :: a3 :: a4 :: a5 :: a6 :: a7 :: a8 :: a9 :: a10 :: a11 :: a12 :: a13 :: a14 :: a15 :: a16 :: some x :: env) = .ok x := rfl
@[simp] theorem ownL_17 (a0 a1 a2 a3 a4 a5 a6 a7 a8 a9 a10 a11 a12 a13 a14 a15 a16 : Option Ow) (os : List Ow) (env : Ev) (k : List Ow → SR) : ownL 17 (a0 :: a1 :: a2 :: a3 :: a4 :: a5 :: a6 :: a7 :: a8 :: a9 :: a10 :: a11 :: a12 :: a13 :: a14 :: a15 :: a16 :: some (.l os) :: env) k = k os := rfl
@[simp] theorem eVar_18 (a0 a1 a2 a3 a4 a5 a6 a7 a8 a9 a10 a11 a12 a13 a14 a15 a16 a17 : Option Ow) (x : D) (env : Ev) : eVar 18 (a0 :: a1 :: a2 :: a3 :: a4 :: a5 :: a6 :: a7 :: a8 :: a9 :: a10 :: a11 :: a12 :: a13 :: a14 :: a15 :: a16 :: a17 :: some (.d x) :: env) = .ok x := rfl
@[simp] theorem eVarO_18 (a0 a1 a2 a3 a4 a5 a6 a7 a8 a9 a10 a11 a12 a13 a14 a15 a16 a17 : Option Ow) (x : Ow) (env : Ev) : eVarO 18 (a0 :: a1 :: a2 :: a3 :: a4 :: a5 :: a6 :: a7 :: a8 :: a9 :: a10 :: a11 :: a12 :: a13 :: a14 :: a15 :: a16 :: a17 :: some x :: env) = .ok x := rfl
@[simp] theorem ownL_18 (a0 a1 a2 a3 a4 a5 a6 a7 a8 a9 a10 a11 a12 a13 a14 a15 a16 a17 : Option Ow) (os : List Ow) (env : Ev) (k : List Ow → SR) : ownL 18 (a0 :: a1 :: a2 :: a3 :: a4 :: a5 :: a6 :: a7 :: a8 :: a9 :: a10 :: a11 :: a12 :: a13 :: a14 :: a15 :: a16 :: a17 :: some (.l os) :: env) k = k os := rfl
@[simp] theorem eVar_19 (a0 a1 a2 a3 a4 a5 a6 a7 a8 a9 a10 a11 a12 a13 a14 a15 a16 a17 a18 : Option Ow) (x : D) (env : Ev) : eVar 19 (a0 :: a1 :: a2 :: a3 :: a4 :: a5 :: a6 :: a7 :: a8 :: a9 :: a10 :: a11 :: a12 :: a13 :: a14 :: a15 :: a16 :: a17 :: a18 :: some (.d x) :: env) = .ok x := rfl
@[simp] theorem eVarO_19 (a0 a1 a2 a3 a4 a5 a6 a7 a8 a9 a10 a11 a12 a13 a14 a15 a16 a17 a18 : Option Ow) (x : Ow) (env : Ev) : eVarO 19 (a0 :: a1 :: a2 :: a3 :: a4 :: a5 :: a6 :: a7 :: a8 :: a9 :: a10 :: a11 :: a12 :: a13 :: a14 :: a15 :: a16 :: a17 :: a18 :: some x :: env) = .ok x := rfl
@[simp] theorem ownL_19 (a0 a1 a2 a3 a4 a5 a6 a7 a8 a9 a10 a11 a12 a13 a14 a15 a16 a17 a18 : Option Ow) (os : List Ow) (env : Ev) (k : List Ow → SR) : ownL 19 (a0 :: a1 :: a2 :: a3 :: a4 :: a5 :: a6 :: a7 :: a8 :: a9 :: a10 :: a11 :: a12 :: a13 :: a14 :: a15 :: a16 :: a17 :: a18 :: some (.l os) :: env) k = k os := rfl
@[simp] theorem eVar_20 (a0 a1 a2 a3 a4 a5 a6 a7 a8 a9 a10 a11 a12 a13 a14 a15 a16 a17 a18 a19 : Option Ow) (x : D) (env : Ev) : eVar 20 (a0 :: a1 :: a2 :: a3 :: a4 :: a5 :: a6 :: a7 :: a8 :: a9 :: a10 :: a11 :: a12 :: a13 :: a14 :: a15 :: a16 :: a17 :: a18 :: a19 :: some (.d x) :: env) = .ok x := rfl
@[simp] theorem eVarO_20 (a0 a1 a2 a3 a4 a5 a6 a7 a8 a9 a10 a11 a12 a13 a14 a15 a16 a17 a18 a19 : Option Ow) (x : Ow) (env : Ev) : eVarO 20 (a0 :: a1 :: a2 :: a3 :: a4 :: a5 :: a6 :: a7 :: a8 :: a9 :: a10 :: a11 :: a12 :: a13 :: a14 :: a15 :: a16 :: a17 :: a18 :: a19 :: some x :: env) = .ok x := rfl
@[simp] theorem ownL_20 (a0 a1 a2 a3 a4 a5 a6 a7 a8 a9 a10 a11 a12 a13 a14 a15 a16 a17 a18 a19 : Option Ow) (os : List Ow) (env : Ev) (k : List Ow → SR) : ownL 20 (a0 :: a1 :: a2 :: a3 :: a4 :: a5 :: a6 :: a7 :: a8 :: a9 :: a10 :: a11 :: a12 :: a13 :: a14 :: a15 :: a16 :: a17 :: a18 :: a19 :: some (.l os) :: env) k = k os := rfl
@[simp] theorem eVar_21 (a0 a1 a2 a3 a4 a5 a6 a7 a8 a9 a10 a11 a12 a13 a14 a15 a16 a17 a18 a19 a20 : Option Ow) (x : D) (env : Ev) : eVar 21 (a0 :: a1 :: a2 :: a3 :: a4 :: a5 :: a6 :: a7 :: a8 :: a9 :: a10 :: a11 :: a12 :: a13 :: a14 :: a15 :: a16 :: a17 :: a18 :: a19 :: a20 :: some (.d x) :: env) = .ok x := rfl
@[simp] theorem eVarO_21 (a0 a1 a2 a3 a4 a5 a6 a7 a8 a9 a10 a11 a12 a13 a14 a15 a16 a17 a18 a19 a20 : Option Ow) (x : Ow) (env : Ev) : eVarO 21 (a0 :: a1 :: a2 :: a3 :: a4 :: a5 :: a6 :: a7 :: a8 :: a9 :: a10 :: a11 :: a12 :: a13 :: a14 :: a15 :: a16 :: a17 :: a18 :: a19 :: a20 :: some x :: env) = .ok x := rfl
@[simp] theorem ownL_21 (a0 a1 a2 a3 a4 a5 a6 a7 a8 a9 a10 a11 a12 a13 a14 a15 a16 a17 a18 a19 a20 : Option Ow) (os : List Ow) (env : Ev) (k : List Ow → SR) : ownL 21 (a0 :: a1 :: a2 :: a3 :: a4 :: a5 :: a6 :: a7 :: a8 :: a9 :: a10 :: a11 :: a12 :: a13 :: a14 :: a15 :: a16 :: a17 :: a18 :: a19 :: a20 :: some (.l os) :: env) k = k os := rfl
@[simp] theorem eVar_22 (a0 a1 a2 a3 a4 a5 a6 a7 a8 a9 a10 a11 a12 a13 a14 a15 a16 a17 a18 a19 a20 a21 : Option Ow) (x : D) (env : Ev) : eVar 22 (a0 :: a1 :: a2 :: a3 :: a4 :: a5 :: a6 :: a7 :: a8 :: a9 :: a10 :: a11 :: a12 :: a13 :: a14 :: a15 :: a16 :: a17 :: a18 :: a19 :: a20 :: a21 :: some (.d x) :: env) = .ok x := rfl
@[simp] theorem eVarO_22 (a0 a1 a2 a3 a4 a5 a6 a7 a8 a9 a10 a11 a12 a13 a14 a15 a16 a17 a18 a19 a20 a21 : Option Ow) (x : Ow) (env : Ev) : eVarO 22 (a0 :: a1 :: a2 :: a3 :: a4 :: a5 :: a6 :: a7 :: a8 :: a9 :: a10 :: a11 :: a12 :: a13 :: a14 :: a15 :: a16 :: a17 :: a18 :: a19 :: a20 :: a21 :: some x :: env) = .ok x := rfl
@[simp] theorem ownL_22 (a0 a1 a2 a3 a4 a5 a6 a7 a8 a9 a10 a11 a12 a13 a14 a15 a16 a17 a18 a19 a20 a21 : Option Ow) (os : List Ow) (env : Ev) (k : List Ow → SR) : ownL 22 (a0 :: a1 :: a2 :: a3 :: a4 :: a5 :: a6 :: a7 :: a8 :: a9 :: a10 :: a11 :: a12 :: a13 :: a14 :: a15 :: a16 :: a17 :: a18 :: a19 :: a20 :: a21 :: some (.l os) :: env) k = k os := rfl
@[simp] theorem eVar_23 (a0 a1 a2 a3 a4 a5 a6 a7 a8 a9 a10 a11 a12 a13 a14 a15 a16 a17 a18 a19 a20 a21 a22 : Option Ow) (x : D) (env : Ev) : eVar 23 (a0 :: a1 :: a2 :: a3 :: a4 :: a5 :: a6 :: a7 :: a8 :: a9 :: a10 :: a11 :: a12 :: a13 :: a14 :: a15 :: a16 :: a17 :: a18 :: a19 :: a20 :: a21 :: a22 :: some (.d x) :: env) = .ok x := rfl
@[simp] theorem eVarO_23 (a0 a1 a2 a3 a4 a5 a6 a7 a8 a9 a10 a11 a12 a13 a14 a15 a16 a17 a18 a19 a20 a21 a22 : Option Ow) (x : Ow) (env : Ev) : eVarO 23 (a0 :: a1 :: a2 :: a3 :: a4 :: a5 :: a6 :: a7 :: a8 :: a9 :: a10 :: a11 :: a12 :: a13 :: a14 :: a15 :: a16 :: a17 :: a18 :: a19 :: a20 :: a21 :: a22 :: some x :: env) = .ok x := rfl
@[simp] theorem ownL_23 (a0 a1 a2 a3 a4 a5 a6 a7 a8 a9 a10 a11 a12 a13 a14 a15 a16 a17 a18 a19 a20 a21 a22 : Option Ow) (os : List Ow) (env : Ev) (k : List Ow → SR) : ownL 23 (a0 :: a1 :: a2 :: a3 :: a4 :: a5 :: a6 :: a7 :: a8 :: a9 :: a10 :: a11 :: a12 :: a13 :: a14 :: a15 :: a16 :: a17 :: a18 :: a19 :: a20 :: a21 :: a22 :: some (.l os) :: env) k = k os := rfl
@[simp] theorem eVar_24 (a0 a1 a2 a3 a4 a5 a6 a7 a8 a9 a10 a11 a12 a13 a14 a15 a16 a17 a18 a19 a20 a21 a22 a23 : Option Ow) (x : D) (env : Ev) : eVar 24 (a0 :: a1 :: a2 :: a3 :: a4 :: a5 :: a6 :: a7 :: a8 :: a9 :: a10 :: a11 :: a12 :: a13 :: a14 :: a15 :: a16 :: a17 :: a18 :: a19 :: a20 :: a21 :: a22 :: a23 :: some (.d x) :: env) = .ok x := rfl
@[simp] theorem eVarO_24 (a0 a1 a2 a3 a4 a5 a6 a7 a8 a9 a10 a11 a12 a13 a14 a15 a16 a17 a18 a19 a20 a21 a22 a23 : Option Ow) (x : Ow) (env : Ev) : eVarO 24 (a0 :: a1 :: a2 :: a3 :: a4 :: a5 :: a6 :: a7 :: a8 :: a9 :: a10 :: a11 :: a12 :: a13 :: a14 :: a15 :: a16 :: a17 :: a18 :: a19 :: a20 :: a21 :: a22 :: a23 :: some x :: env) = .ok x := rfl
@[simp] theorem ownL_24 (a0 a1 a2 a3 a4 a5 a6 a7 a8 a9 a10 a11 a12 a13 a14 a15 a16 a17 a18 a19 a20 a21 a22 a23 : Option Ow) (os : List Ow) (env : Ev) (k : List Ow → SR) : ownL 24 (a0 :: a1 :: a2 :: a3 :: a4 :: a5 :: a6 :: a7 :: a8 :: a9 :: a10 :: a11 :: a12 :: a13 :: a14 :: a15 :: a16 :: a17 :: a18 :: a19 :: a20 :: a21 :: a22 :: a23 :: some (.l os) :: env) k = k os := rfl
@[simp] theorem eVar_25 (a0 a1 a2 a3 a4 a5 a6 a7 a8 a9 a10 a11 a12 a13 a14 a15 a16 a17 a18 a19 a20 a21 a22 a23 a24 : Option Ow) (x : D) (env : Ev) : eVar 25 (a0 :: a1 :: a2 :: a3 :: a4 :: a5 :: a6 :: a7 :: a8 :: a9 :: a10 :: a11 :: a12 :: a13 :: a14 :: a15 :: a16 :: a17 :: a18 :: a19 :: a20 :: a21 :: a22 :: a23 :: a24 :: some (.d x) :: env) = .ok x := rfl
@[simp] theorem eVarO_25 (a0 a1 a2 a3 a4 a5 a6 a7 a8 a9 a10 a11 a12 a13 a14 a15 a16 a17 a18 a19 a20 a21 a22 a23 a24 : Option Ow) (x : Ow) (env : Ev) : eVarO 25 (a0 :: a1 :: a2 :: a3 :: a4 :: a5 :: a6 :: a7 :: a8 :: a9 :: a10 :: a11 :: a12 :: a13 :: a14 :: a15 :: a16 :: a17 :: a18 :: a19 :: a20 :: a21 :: a22 :: a23 :: a24 :: some x :: env) = .ok x := rfl
@[simp] theorem ownL_25 (a0 a1 a2 a3 a4 a5 a6 a7 a8 a9 a10 a11 a12 a13 a14 a15 a16 a17 a18 a19 a20 a21 a22 a23 a24 : Option Ow) (os : List Ow) (env : Ev) (k : List Ow → SR) : ownL 25 (a0 :: a1 :: a2 :: a3 :: a4 :: a5 :: a6 :: a7 :: a8 :: a9 :: a10 :: a11 :: a12 :: a13 :: a14 :: a15 :: a16 :: a17 :: a18 :: a19 :: a20 :: a21 :: a22 :: a23 :: a24 :: some (.l os) :: env) k = k os := rfl
theorem fin_step {f g : Ev → SR} {env env1 : Ev} {o : R Ow} (h1 : f env = .nx env1) (h2 : finR (g env1) = o) : finR (sSeq f g env) = o := by
  rw [sSeq_eq, h1]
  exact h2
end Mir
end
set_option Elab.async false
set_option linter.all false
set_option maxRecDepth 100000
set_option maxHeartbeats 4000000
noncomputable section
namespace Mir
open PySem PySem.Spec L2

def PostX (K : Kw) {α β : Type} (P : Hp → α → β → Prop) (F H : Hp) (fp : List Addr) (σ : L2.St) : R (α × Ev) → (β → Hp → Prop) → Prop
  | .ok (a, env), Q => ∀ v F' H' fp', StepS F H fp F' H' fp' → Sat K F' H' σ env fp' → P F' a v → Q v H'
  | _, _ => False
def SmX (K : Kw) {α β : Type} (P : Hp → α → β → Prop) (t : L2.St → Hp → (β → Hp → Prop) → Prop) (f : Ev → R (α × Ev)) : Prop :=
  ∀ F H σ env fp Q, Sat K F H σ env fp → PostX K P F H fp σ (f env) Q → t σ H Q
def XD (K : Kw) (F : Hp) (d : D) (v : V) : Prop := Dp K F v d
def XDs (K : Kw) (F : Hp) (ds : List D) (vs : List V) : Prop := DpAll K F vs ds
section
variable {K : Kw} {α β γ δ : Type} {P : Hp → α → β → Prop} {P2 : Hp → γ → δ → Prop} {F H F1 H1 : Hp} {fp fp1 : List Addr} {σ : L2.St}
theorem PostX.step {r : R (α × Ev)} {Q : β → Hp → Prop} (h : PostX K P F H fp σ r Q) (s : StepS F H fp F1 H1 fp1) : PostX K P F1 H1 fp1 σ r Q := by
  cases r with
  | no => exact h
  | ex c => exact h
  | ok p => exact fun v F' H' fp' s' => h v F' H' fp' (s.trans s')
theorem SmX.go {t : L2.St → Hp → (β → Hp → Prop) → Prop} {f : Ev → R (α × Ev)} (s : SmX K P t f) {g : α × Ev → R (γ × Ev)} {env : Ev} {Q : δ → Hp → Prop} {T : β → Hp → Prop} (sat : Sat K F H σ env fp) (h : PostX K P2 F H fp σ ((f env).bind g) Q)
    (k : ∀ a env1 v F1 H1 fp1, StepS F H fp F1 H1 fp1 → Sat K F1 H1 σ env1 fp1 → P F1 a v → PostX K P2 F1 H1 fp1 σ (g (a, env1)) Q → T v H1) : t σ H T := by
  refine s F H σ env fp T sat ?_
  cases e : f env with
  | no => rw [e] at h; exact h
  | ex c => rw [e] at h; exact h
  | ok p =>
    obtain ⟨a, env1⟩ := p
    rw [e] at h
    exact fun v F' H' fp' st sat' q => k a env1 v F' H' fp' st sat' q (PostX.step (show PostX K P2 F H fp σ (g (a, env1)) Q from h) st)
end
section
variable (X : Cx)
def DXF (e : Expr) (f : Ev → R (D × Ev)) : Prop := ∃ t, PE X e t ∧ SmX X.KK (XD X.KK) t f
def DXA (es : List Expr) (f : Ev → R (List D × Ev)) : Prop := ∃ t, PA X es t ∧ SmX X.KK (XDs X.KK) t f
end
section
variable {X : Cx} {W : WX} {e a b : Expr} {es : List Expr} {pos p : Pos} {x : Str}
/-- a plain expression -/
def xP (f : Ev → R D) (env : Ev) : R (D × Ev) := match f env with
  | .ok d => .ok (d, env)
  | _ => .no
theorem xf_df {f : Ev → R D} (h : DF X W0 e f) : DXF X e (xP f) := by
  obtain ⟨t, p, s⟩ := h
  refine ⟨t, p, fun F H σ env fp Q sat h => s F H σ env fp Q sat ?_⟩
  unfold xP at h
  cases e : f env with
  | no => rw [e] at h; exact h
  | ex c => rw [e] at h; exact h.elim
  | ok d => rw [e] at h; exact fun v F' H' x q => h v F' H' fp (StepS.of_ext x fp) (sat.ext x) q
def xBin (g : D → D → Option D) (f h : Ev → R (D × Ev)) (env : Ev) : R (D × Ev) := (f env).bind fun p => (h p.2).bind fun q => (R.of (g p.1 q.1)).bind fun d => .ok (d, q.2)
theorem xop_sm {r : R2} {g : D → D → Option D} (hs : OpS X.KK r g) {ta tb : TE} {f h : Ev → R (D × Ev)} (sa : SmX X.KK (XD X.KK) ta f) (sb : SmX X.KK (XD X.KK) tb h) : SmX X.KK (XD X.KK) (tOp r ta tb) (xBin g f h) := by
  intro F H σ env fp Q sat hp
  refine sa.go sat hp fun d env1 v F1 H1 fp1 st1 sat1 q h1 => ?_
  refine sb.go sat1 h1 fun d' env2 v' F2 H2 fp2 st2 sat2 q' h2 => ?_
  cases hz : g d d' with
  | none => simp only [hz] at h2; exact h2.elim
  | some z =>
    simp only [hz] at h2
    exact hs H2 v v' d d' z Q (dpUp (dpUp q st2.ff) sat2.fh) (dpUp q' sat2.fh) hz fun u hu => h2 u F2 H2 fp2 (StepS.of_ext (.refl sat2.fh) fp2) sat2 (hu _)
theorem xf_bin {op : Operator} {r : R2} {g : D → D → Option D} (ho : OpR X (binaryOp op) r) (hs : OpS X.KK r g) {f h : Ev → R (D × Ev)} (ha : DXF X a f) (hb : DXF X b h) : DXF X (.BinOp a op b pos) (xBin g f h) := by
  obtain ⟨ta, pa, sa⟩ := ha
  obtain ⟨tb, pb, sb⟩ := hb
  exact ⟨_, pe_op ho pa pb, xop_sm hs sa sb⟩
def xNil (env : Ev) : R (List D × Ev) := .ok ([], env)
def xCons (f : Ev → R (D × Ev)) (g : Ev → R (List D × Ev)) (env : Ev) : R (List D × Ev) := (f env).bind fun p => (g p.2).bind fun q => .ok (p.1 :: q.1, q.2)
theorem xa_nil : DXA X [] xNil := ⟨_, pa_nil, fun F H σ env fp Q sat h => h _ F H fp (StepS.of_ext (.refl sat.fh) fp) sat .nil⟩
theorem xa_cons {f : Ev → R (D × Ev)} {g : Ev → R (List D × Ev)} (hf : DXF X e f) (hg : DXA X es g) (hs : starEach (e :: es) X.env = (false, eval e X.env) :: starEach es X.env := by rfl) : DXA X (e :: es) (xCons f g) := by
  obtain ⟨t, p, s⟩ := hf
  obtain ⟨t', p', s'⟩ := hg
  refine ⟨_, pa_cons p p' hs, fun F H σ env fp Q sat h => ?_⟩
  refine s.go sat h fun d env1 v F1 H1 fp1 st1 sat1 q h1 => ?_
  refine s'.go sat1 h1 fun ds env2 vs F2 H2 fp2 st2 sat2 q' h2 => ?_
  exact h2 _ F2 H2 fp2 (StepS.of_ext (.refl sat2.fh) fp2) sat2 (.cons (dpUp q st2.ff) q')
/-- a def that changes nothing, called -/
def xCall (m : List D → R Ow) (fa : Ev → R (List D × Ev)) (env : Ev) : R (D × Ev) := (fa env).bind fun p => match m p.1 with
  | .ok r => .ok (viewD r, p.2)
  | _ => .no
theorem xf_call {k n : Nat} {f : Addr} {fd : FuncData} {ps : List Str} {m : List D → R Ow} {fa : Ev → R (List D × Ev)} (F : FnOk X.prog X.w X.K X.mg X.base (L2.CX X.prog X.w) k f fd ps (spM X.KK X.mg n m)) (tk : Takes X W) (hr : Room k X.A) (hg : Gl X x) (hm : X.mg x = some (.ref f))
    (hk : PySem.W.keepIn X.K (.ref f) = true) (hb : Binds X.K fd ps []) (ha : DXA X (e :: es) fa) (hn : ∀ ds env env', fa env = .ok (ds, env') → ds.length = n)
    (hdb : (x == ("__debug__" : Str)) = false := by decide) (he : starEach (e :: es) X.env = (false, eval e X.env) :: starEach es X.env := by rfl) (hpl : (backTo pos (starEach es X.env)).any (·.1) = false := by rfl) :
    DXF X (.Call (.Name x p) (e :: es) [] pos) (xCall m fa) := by
  obtain ⟨t, pa, s⟩ := ha
  refine ⟨_, pe_callS F hr hg hm hk hb (fun σ => passAt tk σ) pa hdb he hpl, fun F0 H σ env fp Q sat hp => ?_⟩
  unfold xCall at hp
  cases ef : fa env with
  | no => rw [ef] at hp; exact hp.elim
  | ex c => rw [ef] at hp; exact hp.elim
  | ok p0 =>
    obtain ⟨ds, env1⟩ := p0
    rw [ef] at hp
    refine s F0 H σ env fp _ sat ?_
    rw [ef]
    intro vs F1 H1 fp1 st1 sat1 q
    refine ⟨F1, ds, sat1.fh, q, hn ds env env1 ef, ?_⟩
    have h1 : PostX X.KK (XD X.KK) F0 H fp σ (match m ds with
      | .ok r => .ok (viewD r, env1)
      | _ => .no) Q := hp
    cases em : m ds with
    | no => rw [em] at h1; exact h1.elim
    | ex c => rw [em] at h1; exact h1.elim
    | ok r =>
      rw [em] at h1
      intro v F' H' x ⟨fo, ow, nd, fresh⟩
      obtain ⟨F2, x2, q2⟩ := x.freeze ow fresh
      exact h1 v F2 H' fp1 (st1.trans (StepS.of_ext x2 fp1)) (sat1.ext x2) q2
theorem xNil_len {ds : List D} {env env' : Ev} (h : xNil env = .ok (ds, env')) : ds.length = 0 := by cases h; rfl
theorem xCons_len {n : Nat} {f : Ev → R (D × Ev)} {g : Ev → R (List D × Ev)} (ih : ∀ ds env env', g env = .ok (ds, env') → ds.length = n) : ∀ ds env env', xCons f g env = .ok (ds, env') → ds.length = n + 1 := fun ds env env' h => by
  unfold xCons at h
  cases e1 : f env with
  | no => rw [e1] at h; cases h
  | ex c => rw [e1] at h; cases h
  | ok p =>
    rw [e1] at h
    simp only [R.bind_ok] at h
    cases e2 : g p.2 with
    | no => rw [e2] at h; cases h
    | ex c => rw [e2] at h; cases h
    | ok q =>
      rw [e2] at h
      simp only [R.bind_ok] at h
      cases h
      simp [ih q.1 p.2 q.2 e2]

/-- the own list in slot i, changed by a step within it -/
theorem Sat.chg {K : Kw} {F H : Hp} {σ : L2.St} {env : Ev} {fp : List Addr} (sat : Sat K F H σ env fp) {i : Nat} {dk : List D} (hi : env[i]? = some (some (.l (dk.map Ow.d)))) : ∃ a vs, σ[i]? = some (some (.ref a)) ∧ F a = none ∧ H a = some (.lst vs) ∧ DpAll K F vs dk ∧
    ∀ F' H' vs' dk', StepS F H [a] F' H' [a] → Same F' H' → F' a = none → H' a = some (.lst vs') → DpAll K F' vs' dk' → ∃ fp', StepS F H fp F' H' fp' ∧ Sat K F' H' σ (env.set i (some (.l (dk'.map Ow.d)))) fp' := by
  have hl : i < env.length := (List.getElem?_eq_some_iff.mp hi).1
  obtain ⟨fr, fo0, a1, a2, a3, a3', a4, a5, a6⟩ := sat.en.put hl sat.nd
  obtain ⟨v, e1, e2⟩ := a5 _ hi
  cases e2 with
  | @l a vs _ fo h1 h2 h3 =>
    obtain ⟨dp, rfl⟩ := OwnAll.dp h3
    refine ⟨a, vs, e1, h1, h2, dp, fun F' H' vs' dk' st sf fa ha dp' => ?_⟩
    have na : a ∉ fr := a4 a List.mem_cons_self
    obtain ⟨fp', b1, b2, b3⟩ := (a6 F' H' [a] [a] st fun b hb z => na (by rw [← List.mem_singleton.mp z]; exact hb)).2 (.ref a) (.l (dk'.map Ow.d)) [a] (.l fa ha (OwnAll.of_dp dp')) (by simp) fun b hb => by rw [List.mem_singleton.mp hb]; exact na
    rw [set_self e1] at b3
    refine ⟨fp', ⟨st.ff, fun b o q n => st.fr b o q fun z => n (by rw [List.mem_singleton.mp z]; exact a2 a List.mem_cons_self), fun b o q => (st.fn b o q).imp id (.imp (fun z => by rw [List.mem_singleton.mp z]; exact a2 a List.mem_cons_self) id), fun b hb => ?_⟩, sf, b3, b1⟩
    rcases b2 b hb with q | q
    · rw [List.mem_singleton.mp q]; exact .inl (a2 a List.mem_cons_self)
    · exact .inl (a1 b q)
def lstAt (i : Nat) (env : Ev) : Option (List D) := match env[i]? with
  | some (some (.l os)) => unDs os
  | _ => none
theorem lstAt_eq {i : Nat} {env : Ev} {dk : List D} (h : lstAt i env = some dk) : env[i]? = some (some (.l (dk.map Ow.d))) := by
  unfold lstAt at h
  split at h
  · rename_i os e
    rw [e, unDs_eq h]
  · cases h
def PostK (K : Kw) (F H : Hp) (a : Addr) : R Ow → VK → Prop
  | .ok (.d (.tuple [r, .list dk])), Q => ∀ v F' H' xs, StepS F H [a] F' H' [a] → Same F' H' → F' a = none → H' a = some (.lst xs) → DpAll K F' xs dk → Dp K F' v r → Q v H'
  | _, _ => False
/-- the promise of a def that changes the list that it is handed first -/
def spK (K : Kw) (n : Nat) (m : List D → R Ow) : Sp := fun vs H Q _ => ∃ F a xs ws dk ds, Same F H ∧ vs = V.ref a :: ws ∧ F a = none ∧ H a = some (.lst xs) ∧ DpAll K F xs dk ∧ DpAll K F ws ds ∧ ds.length = n ∧ PostK K F H a (m (.list dk :: ds)) Q
theorem spK_len {K : Kw} {n : Nat} {m : List D → R Ow} {vs : List V} {H : Hp} {Q : VK} {E : XK} (h : spK K n m vs H Q E) : vs.length = n + 1 := by
  obtain ⟨F, a, xs, ws, dk, ds, _, rfl, _, _, _, h1, h2, _⟩ := h
  rw [List.length_cons, DpAll.len h1, h2]
def xCallK (m : List D → R Ow) (i : Nat) (fa : Ev → R (List D × Ev)) (env : Ev) : R (D × Ev) := match lstAt i env with
  | none => .no
  | some _ => (fa env).bind fun p => match lstAt i p.2 with
    | none => .no
    | some dk => match m (.list dk :: p.1) with
      | .ok (.d (.tuple [r, .list dk'])) => .ok (r, p.2.set i (some (.l (dk'.map Ow.d))))
      | _ => .no
theorem xf_callK {k n : Nat} {f : Addr} {fd : FuncData} {ps : List Str} {y : Str} {npos : Pos} {m : List D → R Ow} {fa : Ev → R (List D × Ev)} (i : Nat) (F : FnOk X.prog X.w X.K X.mg X.base (L2.CX X.prog X.w) k f fd ps (spK X.KK n m)) (tk : Takes X W) (hr : Room k X.A) (hg : Gl X x) (hm : X.mg x = some (.ref f))
    (hk : PySem.W.keepIn X.K (.ref f) = true) (hb : Binds X.K fd ps []) (ha : DXA X es fa) (hn : ∀ ds env env', fa env = .ok (ds, env') → ds.length = n) (hN : X.N[i]? = some y := by rfl) (hv : Vis X.env.scope y := by first | exact Or.inl rfl | exact Or.inr (Or.inl rfl) | exact Or.inr (Or.inr rfl)) (hd : (y == ("__debug__" : Str)) = false := by decide) (hcd : (y == ("__classdict__" : Str)) = false := by decide)
    (hdb : (x == ("__debug__" : Str)) = false := by decide) (he : starEach (.Name y npos :: es) X.env = (false, eval (.Name y npos) X.env) :: starEach es X.env := by rfl) (hpl : (backTo pos (starEach es X.env)).any (·.1) = false := by rfl) :
    DXF X (.Call (.Name x p) (.Name y npos :: es) [] pos) (xCallK m i fa) := by
  obtain ⟨t, pa, s⟩ := ha
  refine ⟨_, pe_callS F hr hg hm hk hb (fun σ => passAt tk σ) (pa_cons (pe_var hN hv hd hcd) pa he) hdb he hpl, fun F0 H σ env fp Q sat hp => ?_⟩
  unfold xCallK at hp
  cases e0 : lstAt i env with
  | none => rw [e0] at hp; exact hp.elim
  | some dk0 =>
  rw [e0] at hp
  obtain ⟨a0, vs0, b1, _⟩ := sat.chg (lstAt_eq e0)
  refine ⟨.ref a0, b1, ?_⟩
  cases ef : fa env with
  | no => rw [ef] at hp; exact hp.elim
  | ex c => rw [ef] at hp; exact hp.elim
  | ok p0 =>
  obtain ⟨ds, env1⟩ := p0
  rw [ef] at hp
  refine s F0 H σ env fp _ sat ?_
  rw [ef]
  intro ws F1 H1 fp1 st1 sat1 q
  have h1 : PostX X.KK (XD X.KK) F0 H fp σ (match lstAt i env1 with
    | none => .no
    | some dk => match m (.list dk :: ds) with
      | .ok (.d (.tuple [r, .list dk'])) => .ok (r, env1.set i (some (.l (dk'.map Ow.d))))
      | _ => .no) Q := hp
  cases e1 : lstAt i env1 with
  | none => rw [e1] at h1; exact h1.elim
  | some dk =>
  rw [e1] at h1
  simp only at h1
  obtain ⟨a, vs, c1, c2, c3, c4, c5⟩ := sat1.chg (lstAt_eq e1)
  rw [b1] at c1
  cases c1
  refine ⟨F1, a0, vs, ws, dk, ds, sat1.fh, rfl, c2, c3, c4, q, hn ds env env1 ef, ?_⟩
  cases em : m (.list dk :: ds) with
  | no => rw [em] at h1; exact h1.elim
  | ex c => rw [em] at h1; exact h1.elim
  | ok r =>
  rw [em] at h1
  split at h1
  · rename_i r' dk' e
    cases e
    intro v F' H' xs st sf fa' ha' dp' dv
    obtain ⟨fp', d1, d2⟩ := c5 F' H' xs dk' st sf fa' ha' dp'
    exact h1 v F' H' fp' (st1.trans d1) d2 dv
  · exact h1.elim
/-- x.pop() -/
def xPop (i : Nat) (env : Ev) : R (D × Ev) := match lstAt i env with
  | none => .no
  | some dk => match dk.getLast? with
    | none => .no
    | some d => .ok (d, env.set i (some (.l (dk.dropLast.map Ow.d))))
theorem DpAll.dropLast {H : Hp} {K : Kw} {vs : List V} {ds : List D} (h : DpAll K H vs ds) : DpAll K H vs.dropLast ds.dropLast := by
  rw [List.dropLast_eq_take, List.dropLast_eq_take, DpAll.len h]
  exact Mir.DpAll.take _ h
theorem pop_step {F H : Hp} {a : Addr} {vs vs' : List V} (s : Same F H) (h : H a = some (.lst vs)) : StepS F H [a] F (upd H a (.lst vs')) [a] :=
  ⟨Same.refl _, fun b o e n => by rw [upd_ne (fun z => n (by simp [z]))]; exact e, fun b o e => .inl e, fun b z => .inl z⟩
theorem xf_pop {npos apos cpos : Pos} (i : Nat) (hN : X.N[i]? = some x := by rfl) (hv : Vis X.env.scope x := by first | exact Or.inl rfl | exact Or.inr (Or.inl rfl) | exact Or.inr (Or.inr rfl)) (hd : (x == ("__debug__" : Str)) = false := by decide) (hcd : (x == ("__classdict__" : Str)) = false := by decide)
    (hbase : attributeBase (.Name x npos) "pop" X.env (eval (.Name x npos) X.env) = eval (.Name x npos) X.env := by rfl) (hline : (apos.endLine == cpos.line) = true := by rfl) : DXF X (.Call (.Attribute (.Name x npos) "pop" apos) [] [] cpos) (xPop i) := by
  refine ⟨_, pe_bm0 PySem.F.plainAttrs_list PySem.F.slot_list_pop PySem.F.type_list_pop mt_pop (pe_var hN hv hd hcd) hbase hline, fun F H σ env fp Q sat hp => ?_⟩
  unfold xPop at hp
  cases e0 : lstAt i env with
  | none => rw [e0] at hp; exact hp.elim
  | some dk =>
  rw [e0] at hp
  simp only at hp
  obtain ⟨a, vs, b1, b2, b3, b4, b5⟩ := sat.chg (lstAt_eq e0)
  refine ⟨.ref a, b1, .inl ⟨rfl, vs, SqL.of b3⟩, ?_⟩
  cases el : dk.getLast? with
  | none => rw [el] at hp; exact hp.elim
  | some d =>
  rw [el] at hp
  have hl := DpAll.len b4
  rw [List.getLast?_eq_getElem?] at el
  obtain ⟨v, g1, g2⟩ := Mir.DpAll.get b4 el
  refine ⟨a, vs, v, rfl, rfl, b3, by rw [hl]; exact g1, ?_⟩
  obtain ⟨fp', d1, d2⟩ := b5 F (upd H a (.lst vs.dropLast)) vs.dropLast dk.dropLast (pop_step sat.fh b3) (mut_same sat.fh b2) b2 upd_same (Mir.DpAll.dropLast b4)
  exact hp v F _ fp' d1 d2 g2
end
end Mir
end
set_option Elab.async false
set_option linter.all false
set_option maxRecDepth 100000
set_option maxHeartbeats 4000000
noncomputable section
namespace Mir
open PySem PySem.Spec L2

def tOfX (K : Kw) (f : Ev → R (D × Ev)) : TE := fun σ H Q => ∃ F env fp, Sat K F H σ env fp ∧ PostX K (XD K) F H fp σ (f env) Q
theorem DXF.can {X : Cx} {e : Expr} {f : Ev → R (D × Ev)} (h : DXF X e f) : PE X e (tOfX X.KK f) := by
  obtain ⟨t, p, s⟩ := h
  refine PE.imp p ?_
  rintro σ H Q ⟨F, env, fp, sat, h⟩
  exact s F H σ env fp Q sat h
def lcX (g : D → Ev → Option Ev) (fe : Ev → R (D × Ev)) (vs : List Nat) : Ev → List D → R (List D × Ev)
  | env, [] => .ok ([], env)
  | env, d :: ds => match g d env with
    | none => .no
    | some env1 => (fe env1).bind fun p => (lcX g fe vs (wipeE p.2 vs) ds).bind fun q => .ok (p.1 :: q.1, q.2)
def xLc (fi : Ev → R (List D)) (g : D → Ev → Option Ev) (fe : Ev → R (D × Ev)) (vs : List Nat) (env : Ev) : R (D × Ev) := match fi env with
  | .ok ds => guard (ds.length ≤ sizeLine) ((lcX g fe vs (wipeE env vs) ds).bind fun p => .ok (.list p.1, p.2))
  | _ => .no
theorem wipeE_get : ∀ (env : Ev) (vs : List Nat) (j : Nat), j ∈ vs → (wipeE env vs)[j]? = (env[j]?).map (fun _ => none)
  | env, [], j, h => by cases h
  | env, v :: vs, j, h => by
    show ((wipeE env vs).set v none)[j]? = _
    have hlen : ∀ vs : List Nat, (wipeE env vs).length = env.length := fun vs => by
      induction vs with
      | nil => rfl
      | cons v vs ih => show ((wipeE env vs).set v none).length = _; rw [List.length_set, ih]
    by_cases hj : v = j
    · subst hj
      by_cases hl : v < (wipeE env vs).length
      · rw [List.getElem?_set_self hl]
        rw [hlen] at hl
        simp [List.getElem?_eq_getElem hl]
      · rw [set_none_len hl]
        rw [hlen] at hl
        rw [List.getElem?_eq_none (by rw [hlen]; omega), List.getElem?_eq_none (by omega)]
        rfl
    · rw [List.getElem?_set_ne hj]
      exact wipeE_get env vs j ((List.mem_cons.mp h).resolve_left fun e => hj e.symm)
theorem EnvAt.re {K : Kw} {F H : Hp} {σ : L2.St} {env : Ev} {fp : List Addr} (h : EnvAt K F H σ env fp) : ∀ {σ' : L2.St}, σ'.length = σ.length → (∀ (j : Nat) (o : Ow), env[j]? = some (some o) → σ'[j]? = σ[j]?) → EnvAt K F H σ' env fp := by
  induction h with
  | nil =>
    intro σ' hl _
    cases σ' with
    | nil => exact .nil
    | cons => simp at hl
  | @non x σ env fp h ih =>
    intro σ' hl hs
    cases σ' with
    | nil => simp at hl
    | cons y σ' => exact .non (ih (by simpa using hl) fun j o e => by simpa using hs (j + 1) o (by simpa using e))
  | @som v o σ env fp fps h1 h2 ih =>
    intro σ' hl hs
    cases σ' with
    | nil => simp at hl
    | cons y σ' =>
      have := hs 0 o rfl
      simp at this
      subst this
      exact .som h1 (ih (by simpa using hl) fun j o e => by simpa using hs (j + 1) o (by simpa using e))
section
variable {X : Cx} {W : WX} {S : Nat → Bool} {pos : Pos}
theorem xf_lc_core {wi : TI} {g : D → Ev → Option Ev} {fi : Ev → R (List D)} {fe : Ev → R (D × Ev)} {ix vs : List Nat} (si : Sm X W (PIt X.KK) wi fi) (hix : ∀ i ∈ ix, i ∈ vs) :
    SmX X.KK (XD X.KK) (tLc wi (tgOf X.KK ix g) (tOf X.KK (Post X W0 PTb) cYes) (tOfX X.KK fe) vs) (xLc fi g fe vs) := by
  intro F H σ env fp Q sat hp
  unfold xLc at hp
  refine si F H σ env fp _ sat ?_
  cases ei : fi env with
  | no => rw [ei] at hp; exact hp.elim
  | ex c => rw [ei] at hp; exact hp.elim
  | ok items =>
  rw [ei] at hp
  intro J F1 H1 x1 wk
  have wk : WalkF X.KK J F1 items := wk
  have sat1 := sat.ext x1
  have h1 : PostX X.KK (XD X.KK) F H fp σ (guard (items.length ≤ sizeLine) ((lcX g fe vs (wipeE env vs) items).bind fun p => .ok (.list p.1, p.2))) Q := hp
  have hz : items.length ≤ sizeLine := by
    by_cases c : items.length ≤ sizeLine
    · exact c
    · have e : guard (items.length ≤ sizeLine) ((lcX g fe vs (wipeE env vs) items).bind fun p => (.ok (.list p.1, p.2) : R (D × Ev))) = .no := by unfold guard; exact if_neg c
      rw [e] at h1
      exact h1.elim
  rw [guard_pos hz] at h1
  intro Dd hD
  have hD1 : F1 Dd = none := free_of sat1.fh hD
  cases el : lcX g fe vs (wipeE env vs) items with
  | no => rw [el] at h1; exact h1.elim
  | ex c => rw [el] at h1; exact h1.elim
  | ok pz =>
  obtain ⟨all, envZ⟩ := pz
  rw [el] at h1
  have h2 : ∀ v F' H' fp', StepS F H fp F' H' fp' → Sat X.KK F' H' σ envZ fp' → XD X.KK F' (.list all) v → Q v H' := h1
  obtain ⟨fpw, satw, subw⟩ := wipe_sat sat1 vs
  let Iv : Nat → Hp → Prop := fun i H' => ∃ F' env' fp' acc accD rest, StepS F1 H1 fpw F' H' (Dd :: fp') ∧ Sat X.KK F' H' (wipe σ vs) env' fp' ∧ F' Dd = none ∧ H' Dd = some (.lst acc) ∧ DpAll X.KK F' acc accD ∧ Dd ∉ fp' ∧ accD.length = i ∧ (∀ v ∈ vs, ∀ o, env'[v]? ≠ some (some o)) ∧ lcX g fe vs env' (items.drop i) = .ok (rest, envZ) ∧ all = accD ++ rest
  have wiped : ∀ env : Ev, ∀ v ∈ vs, ∀ o, (wipeE env vs)[v]? ≠ some (some o) := fun env v hv o e => by
    rw [wipeE_get env vs v hv] at e
    cases q : env[v]? with
    | none => rw [q] at e; cases e
    | some u => rw [q] at e; cases e
  have nD0 : Dd ∉ fpw := fun z => by
    obtain ⟨_, w, e⟩ := satw.en.there Dd z
    rw [hD] at e; cases e
  refine ⟨fun i m H' => m = items.length - i ∧ i ≤ items.length ∧ Iv i H', ⟨items.length, by simp, Nat.zero_le _, F1, wipeE env vs, fpw, [], [], all, ⟨Same.refl _, fun b o e n => ?_, fun b o e => .inl e, fun b hb => ?_⟩, satw.ext (Ext.own sat1.fh hD _), hD1, upd_same, .nil, nD0, rfl, wiped env, el, rfl⟩, ?_⟩
  · rw [upd_ne (ne_of_none e hD)]; exact e
  · rcases List.mem_cons.mp hb with z | z
    · rw [z]; exact .inr hD
    · exact .inl z
  rintro i m H' ⟨rfl, hi, F', env', fp', acc, accD, rest, st, sat', fD, hDd, hacc, nD, hl, wp, er, ea⟩
  have nn : ∀ c, H' c = none → c ∈ fpw ∨ H1 c = none := fun c h => by
    cases q : H1 c with
    | none => exact .inr rfl
    | some o =>
      by_cases hc : c ∈ fpw
      · exact .inl hc
      · rw [st.fr c o q hc] at h; cases h
  by_cases hlt : i < items.length
  · refine .inr ⟨wk.go i F' H' hlt st.ff sat'.fh, Iv (i + 1), fun H2 z => ⟨items.length - (i + 1), by omega, rfl, hlt, z⟩, fun v H3 y => ?_⟩
    obtain ⟨d, F3, e1, x3, dp⟩ := wk.yld i F' H' v H3 hlt st.ff sat'.fh y
    have ed : items.drop i = d :: items.drop (i + 1) := by
      rw [List.drop_eq_getElem_cons hlt]
      have : items[i] = d := by rw [List.getElem?_eq_getElem hlt] at e1; exact Option.some.inj e1
      rw [this]
    rw [ed] at er
    unfold lcX at er
    cases eg : g d env' with
    | none => rw [eg] at er; cases er
    | some env1 =>
    rw [eg] at er
    simp only at er
    cases ee : fe env1 with
    | no => rw [ee] at er; cases er
    | ex c => rw [ee] at er; cases er
    | ok pr =>
    obtain ⟨r, env2⟩ := pr
    rw [ee] at er
    simp only [R.bind_ok] at er
    cases er2 : lcX g fe vs (wipeE env2 vs) (items.drop (i + 1)) with
    | no => rw [er2] at er; cases er
    | ex c => rw [er2] at er; cases er
    | ok pq =>
    obtain ⟨rest2, envQ⟩ := pq
    rw [er2] at er
    simp only [R.bind_ok] at er
    cases er
    refine ⟨F3, env', fp', d, env1, sat'.ext x3, dp, eg, fun σ2 fp2 sat2 sub2 off2 => ?_⟩
    have ew := wipe_off off2 hix
    refine ⟨ew, F3, env1, fp2, sat2, fun v4 F4 H4 x4 ev4 => ?_⟩
    obtain rfl : v4 = true := ev4
    rw [if_pos rfl]
    refine ⟨F4, env1, fp2, sat2.ext x4, ?_⟩
    rw [ee]
    intro y5 F5 H5 fp5 st5 sat5 dy
    have xx := x3.trans x4
    have n2 : Dd ∉ fp2 := fun z => nD (sub2 Dd z)
    have hD4 : H4 Dd = some (.lst acc) := xx.hh _ _ hDd
    have hD5 : H5 Dd = some (.lst acc) := st5.fr Dd _ hD4 n2
    have fD4 : F4 Dd = none := by
      cases q : F4 Dd with
      | none => rfl
      | some u =>
        rcases xx.fn Dd u q with z | z
        · rw [fD] at z; cases z
        · rw [hDd] at z; cases z
    have fD5 : F5 Dd = none := by
      cases q : F5 Dd with
      | none => rfl
      | some u =>
        rcases st5.fn Dd u q with z | z | z
        · rw [fD4] at z; cases z
        · exact absurd z n2
        · rw [hD4] at z; cases z
    have n5 : Dd ∉ fp5 := fun z => by
      rcases st5.sub Dd z with q | q
      · exact n2 q
      · rw [hD4] at q; cases q
    obtain ⟨fp6, sat6, sub6⟩ := wipe_sat sat5 vs
    rw [ew] at sat6
    have n6 : Dd ∉ fp6 := fun z => n5 (sub6 Dd z)
    have la := DpAll.len hacc
    have stp : StepS F5 H5 [Dd] F5 (upd H5 Dd (.lst (acc ++ [y5]))) [] := mut_step (.refl sat6.fh) hD5
    refine ⟨acc, hD5, by omega, F5, wipeE env2 vs, fp6, acc ++ [y5], accD ++ [r], rest2, ⟨st.ff.trans (xx.ff.trans st5.ff), fun b o e n => ?_, fun b o e => ?_, fun b hb => ?_⟩, ⟨mut_same sat6.fh fD5, sat6.en.keep stp fun b hb z => n6 (by rw [← List.mem_singleton.mp z]; exact hb), sat6.nd⟩, fD5, upd_same, DpAll.append (dpaUp hacc (xx.ff.trans st5.ff)) (.cons dy .nil), n6, by simp [hl], wiped env2, er2, by simp [ea]⟩
    · have e' := st.fr b o e n
      rw [upd_ne (ne_of_none e hD)]
      refine st5.fr b o (xx.hh _ _ e') fun z => ?_
      rcases st.sub b (List.mem_cons_of_mem _ (sub2 b z)) with q | q
      · exact n q
      · rw [e] at q; cases q
    · rcases st5.fn b o e with z | z | z
      · rcases xx.fn b o z with q | q
        · exact st.fn b o q
        · exact .inr (nn b q)
      · exact .inr (st.sub b (List.mem_cons_of_mem _ (sub2 b z)))
      · exact .inr (nn b (xx.hh.free z))
    · rcases List.mem_cons.mp hb with z | z
      · rw [z]; exact .inr hD
      · rcases st5.sub b (sub6 b z) with q | q
        · exact st.sub b (List.mem_cons_of_mem _ (sub2 b q))
        · exact nn b (xx.hh.free q)
  · have e : i = items.length := by omega
    subst e
    rw [List.drop_length] at er
    cases er
    refine .inl ⟨wk.stop F' H' st.ff sat'.fh, ?_⟩
    have sfD : Same F' (upd F' Dd (.lst acc)) := same_upd fD _
    have stD : StepS F' H' [Dd] (upd F' Dd (.lst acc)) H' [] := ⟨sfD, fun b o e _ => e, fun b o e => by
      by_cases c : b = Dd
      · exact .inr (.inl (by rw [c]; exact List.mem_cons_self))
      · rw [upd_ne c] at e; exact .inl e, fun b z => nomatch z⟩
    have fhD : Same (upd F' Dd (.lst acc)) H' := fun b o e => by
      by_cases c : b = Dd
      · subst c; rw [upd_same] at e; cases e; exact hDd
      · rw [upd_ne c] at e; exact sat'.fh b o e
    refine h2 (.ref Dd) (upd F' Dd (.lst acc)) H' fp' ⟨x1.ff.trans (st.ff.trans sfD), fun b o e n => ?_, fun b o e => ?_, fun b hb => ?_⟩ ⟨fhD, EnvAt.re (sat'.en.keep stD fun b hb z => nD (by rw [← List.mem_singleton.mp z]; exact hb)) (by rw [wipe_length]) fun j o ej => ?_, sat'.nd⟩ ?_
    · exact st.fr b o (x1.hh _ _ e) fun z => n (subw b z)
    · by_cases c : b = Dd
      · subst c
        exact .inr (.inr (x1.hh.free hD))
      · rw [upd_ne c] at e
        rcases st.fn b o e with q | q | q
        · exact (x1.fn b o q).imp id .inr
        · exact .inr (.inl (subw b q))
        · exact .inr (.inr (x1.hh.free q))
    · rcases st.sub b (List.mem_cons_of_mem _ hb) with q | q
      · exact .inl (subw b q)
      · exact .inr (x1.hh.free q)
    · rw [wipe_get]
      rw [if_neg fun z => wp j z o ej]
    · rw [ea, List.append_nil]
      exact .lst (SqL.of upd_same) (dpaUp hacc sfD)
theorem xf_lc {elt tg iter : Expr} {scope : Scope} {own : List (Str × Nat)} {g : D → Ev → Option Ev} {fi : Ev → R (List D)} {fe : Ev → R (D × Ev)} {ix : List Nat} (hc : X.calm = true) (hN : X.N.Nodup) (hi : DI X W0 tg iter fi) (ok : BlkOk X.N X.env.scope scope own)
    (hg : ∀ (s : Shared) (H : Hp) (C : Addr) (cl : List (Str × Addr)) (fp : List Addr), DG (X.blk s H scope (compEnvC scope cl C X.env) fp) tg ix g)
    (he : ∀ (s : Shared) (H : Hp) (C : Addr) (cl : List (Str × Addr)) (fp : List Addr), DXF (X.blk s H scope (compEnvC scope cl C X.env) fp) elt fe) (hix : ∀ i ∈ ix, i ∈ own.map (·.2) := by decide) (hs : ∀ x, foldedSetIterable iter X.env x = pure x := by intro _; rfl) :
    DXF X (.ListComp elt [⟨tg, iter, [], 0⟩] scope pos) (xLc fi g fe (own.map (·.2))) := by
  obtain ⟨wi, pi, si⟩ := hi
  exact ⟨_, pe_lc (g := tgOf X.KK ix g) hc hN pi ok (fun s H C cl fp => hg s H C cl fp) (fun s H C cl fp => (dts_nil (X := X.blk s H scope (compEnvC scope cl C X.env) fp) (W := W0)).can) (fun s H C cl fp => (he s H C cl fp).can) hs, xf_lc_core si hix⟩

def xSet (i : Nat) (r : R (D × Ev)) : SR := match r with
  | .ok (d, env1) => if i < env1.length then .nx (env1.set i (some (.d d))) else .no
  | _ => .no
def sXSet (i : Nat) (f : Ev → R (D × Ev)) (env : Ev) : SR := xSet i (f env)
theorem put_stepX {K : Kw} {F H F1 H1 : Hp} {σ : L2.St} {env env1 : Ev} {fp fp1 : List Addr} {i : Nat} {v : V} {d : D} (sat : Sat K F1 H1 σ env1 fp1) (st : StepS F H fp F1 H1 fp1) (h : Dp K F1 v d) (hi : i < env1.length) :
    ∃ fp', StepS F H fp F1 H1 fp' ∧ Sat K F1 H1 (σ.set i (some v)) (env1.set i (some (.d d))) fp' := by
  obtain ⟨fp', s1, s2⟩ := sat.put hi (OwnAt.d h) List.nodup_nil (fun _ z => nomatch z)
  exact ⟨fp', st.subset fun b hb => (s2 b hb).elim (fun z => nomatch z) id, s1⟩
theorem xset_post {F H : Hp} {σ : L2.St} {env : Ev} {fp : List Addr} {D' : Ends} {i : Nat} {f : Ev → R (D × Ev)} (hS : S i = true) (h : PostS X W S σ F H fp D' (sXSet i f env)) : PostX X.KK (XD X.KK) F H fp σ (f env) fun v H' => D'.nx (σ.set i (some v)) H' := by
  unfold sXSet xSet at h
  cases e : f env with
  | no => rw [e] at h; exact h
  | ex c => rw [e] at h; exact h
  | ok p =>
    obtain ⟨d, env1⟩ := p
    rw [e] at h
    intro v F' H' fp' st sat q
    have h' : PostS X W S σ F H fp D' (if i < env1.length then .nx (env1.set i (some (.d d))) else .no) := h
    split at h'
    · obtain ⟨fp2, s1, s2⟩ := put_stepX (env := env) sat st q ‹_›
      exact h' _ F' H' fp2 (.set hS _) s1 s2
    · exact h'.elim
theorem ds_xset {e : Expr} {f : Ev → R (D × Ev)} {x : Str} {pos' : Pos} (i : Nat) (hN : X.N.Nodup) (he : DXF X e f) (hi : X.N[i]? = some x := by rfl) (hx : Loc X.env.scope x := by first | exact Or.inl rfl | exact Or.inr rfl)
    (hs : swapsWith e (some (.Name x pos')) pos.line X.env = pure false := by rfl) (hf : X.fn x = true ∨ X.env.scope.names.lookup x = some .local := by first | exact .inl rfl | exact .inr rfl | assumption) (hS : S i = true := by rfl) : DS X W S (.Assign [.Name x pos'] e pos) (sXSet i f) := by
  obtain ⟨t, p, s⟩ := he
  exact ⟨_, ps_set hN hi hx p hs hf, fun F H σ env fp D sat h => s F H σ env fp _ sat (xset_post hS h)⟩
theorem ds_xsetLc {elt tg iter : Expr} {scope : Scope} {own : List (Str × Nat)} {g : D → Ev → Option Ev} {fi : Ev → R (List D)} {fe : Ev → R (D × Ev)} {ix : List Nat} {y : Str} {py spos : Pos} (i : Nat) (hc : X.calm = true) (hN : X.N.Nodup) (hi : DI X W0 tg iter fi) (ok : BlkOk X.N X.env.scope scope own)
    (hg : ∀ (s : Shared) (H : Hp) (C : Addr) (cl : List (Str × Addr)) (fp : List Addr), DG (X.blk s H scope (compEnvC scope cl C X.env) fp) tg ix g)
    (he : ∀ (s : Shared) (H : Hp) (C : Addr) (cl : List (Str × Addr)) (fp : List Addr), DXF (X.blk s H scope (compEnvC scope cl C X.env) fp) elt fe) (hix : ∀ i ∈ ix, i ∈ own.map (·.2) := by decide) (hs : ∀ x, foldedSetIterable iter X.env x = pure x := by intro _; rfl)
    (hy : X.N[i]? = some y := by rfl) (hyl : X.env.scope.names.lookup y = some .local := by rfl) (hsw : swapsWith (.ListComp elt [⟨tg, iter, [], 0⟩] scope pos) (some (.Name y py)) spos.line X.env = pure true := by exact sw_true rfl rfl rfl (by decide +kernel)) (hS : S i = true := by rfl) :
    DS X W S (.Assign [.Name y py] (.ListComp elt [⟨tg, iter, [], 0⟩] scope pos) spos) (sXSet i (xLc fi g fe (own.map (·.2)))) := by
  obtain ⟨wi, pi, si⟩ := hi
  exact ⟨_, ps_setLc (g := tgOf X.KK ix g) hc hN hy hyl hsw pi ok (fun s H C cl fp => hg s H C cl fp) (fun s H C cl fp => (dts_nil (X := X.blk s H scope (compEnvC scope cl C X.env) fp) (W := W0)).can) (fun s H C cl fp => (he s H C cl fp).can) hs, fun F H σ env fp D sat h => xf_lc_core si hix F H σ env fp _ sat (xset_post hS h)⟩
def sXRet (f : Ev → R (D × Ev)) (env : Ev) : SR := match f env with
  | .ok (d, env1) => .rt (.d d) env1
  | _ => .no
theorem ds_xret {e : Expr} {f : Ev → R (D × Ev)} (he : DXF X e f) : DS X W S (.Return (some e) pos) (sXRet f) := by
  obtain ⟨t, p, s⟩ := he
  refine ⟨_, ps_ret p, fun F H σ env fp D sat h => ?_⟩
  refine s F H σ env fp _ sat ?_
  unfold sXRet at h
  cases e : f env with
  | no => rw [e] at h; exact h
  | ex c => rw [e] at h; exact h
  | ok pr =>
    obtain ⟨d, env1⟩ := pr
    rw [e] at h
    intro v F' H' fp' st sat' q
    exact h v σ F' H' [] fp' (.refl _ _) st sat' (.d q) sat'.nd
/-- tuple(e), list handed -/
def xCa (g : List D → Option Ow) (fa : Ev → R (List D × Ev)) (env : Ev) : R (D × Ev) := (fa env).bind fun p => match g p.1 with
  | some r => .ok (viewD r, p.2)
  | none => .no
theorem psqs_of {K : Kw} {F H : Hp} (s : Same F H) : ∀ {vs : List V} {ds : List D}, DpAll K F vs ds → PSqs K F H ds vs
  | _, [], h => by cases h; exact .nil
  | _, d :: ds, h => by
    cases h with
    | cons h1 h2 => exact .cons (.of (H0 := H) s h1) (psqs_of s h2)
theorem xca_sm {r : List V → Hp → VK → Prop} {g : List D → Option Ow} {t : TA} {f : Ev → R (List D × Ev)} (hs : CaG X.KK r g) (s : SmX X.KK (XDs X.KK) t f) : SmX X.KK (XD X.KK) (tCB r t) (xCa g f) := by
  intro F H σ env fp Q sat hp
  refine s.go sat hp fun ds env1 vs F1 H1 fp1 st1 sat1 q h1 => ?_
  cases hz : g ds with
  | none => simp only [hz] at h1; exact h1.elim
  | some o =>
    simp only [hz] at h1
    refine hs F1 H1 vs ds o Q sat1.fh (psqs_of sat1.fh q) hz fun v F' H' x ⟨fo, ow, nd, fresh⟩ => ?_
    obtain ⟨F2, x2, q2⟩ := x.freeze ow fresh
    exact h1 v F2 H' fp1 (StepS.of_ext x2 fp1) (sat1.ext x2) q2
theorem xf_tuple {e : Expr} {p : Pos} {f : Ev → R (List D × Ev)} (hg : Gl X "tuple") (hm : X.mg "tuple" = none) (ha : DXA X [e] f) (he : starEach [e] X.env = (false, eval e X.env) :: starEach [] X.env := by rfl) : DXF X (.Call (.Name "tuple" p) [e] [] pos) (xCa gTuple f) := by
  obtain ⟨t, pa, s⟩ := ha
  exact ⟨_, pe_callTy call_tuple_of hg hm (by decide +kernel) pa (by decide) (by decide) he rfl, xca_sm caG_tuple s⟩

def runK (k : Nat) (f : Ev → SR) (ds : List D) : R Ow := match ds with
  | .list dk :: ds => match f (some (.l (dk.map Ow.d)) :: envOf k ds) with
    | .rt (.d r) env => match lstAt 0 env with
      | some dk' => .ok (.d (.tuple [r, .list dk']))
      | none => .no
    | _ => .no
  | _ => .no
end
section
variable {P : Program} {w : World} {K : PySem.W.Frag} {mg : Str → Option Value} {base : Heap}
theorem mk_fnK {x qual : Str} {st : Stmt} {f : Addr} {fd : FuncData} {N ps : List Str} {k l n : Nat} {fb : Ev → SR} {m : List D → R Ow} (F : Fun K x qual st f fd) (S : FnScope N ps (defScope st)) (hl : N.length = ps.length + l) (hn : ps.length = n + 1) (hm : ∀ ds, m ds = runK l fb ds)
    (hb : ∀ (cdv : Value) (A : Around) (outer : List Env) (s : Shared) (H : Hp) (E : XK), Room k (A.deeper (PyProof.Rows.envOfC qual (defScope st) s.heap.objs.size f cdv)) →
      DSs (cxOf (L2.CX P w) P w K mg base N qual (defScope st) f cdv A outer s H E) (fun cls d _ H => E cls d H) (fun j => j != 0) (defBody st) fb) : FnOk P w K mg base (L2.CX P w) (k + 1) f fd ps (spK ⟨K, w⟩ n m) := by
  refine F.okX S (fun vs H Q E h => by rw [spK_len h, hn]) (fun cdv A outer s H vs Q E hr h => ?_)
  obtain ⟨t, p, sm⟩ := hb cdv A outer s H E hr
  refine ⟨t, p, ?_⟩
  have hlen := spK_len h
  obtain ⟨F0, a, xs, ws, dk, ds, s1, rfl, s2, s3, s4, s5, s6, s7⟩ := h
  have e0 : start N (V.ref a :: ws) = some (V.ref a) :: (ws.map some ++ List.replicate l none) := by
    show (V.ref a :: ws).map some ++ List.replicate (N.length - (V.ref a :: ws).length) none = _
    rw [hl, hlen, hn, Nat.add_sub_cancel_left]
    rfl
  rw [e0]
  have sat : Sat ⟨K, w⟩ F0 H (some (V.ref a) :: (ws.map some ++ List.replicate l none)) (some (.l (dk.map Ow.d)) :: envOf l ds) [a] := ⟨s1, .som (fp := [a]) (.l s2 s3 (OwnAll.of_dp s4)) (env_start l s5), by simp⟩
  rw [hm] at s7
  unfold runK at s7
  simp only at s7
  refine sm F0 H _ _ [a] _ sat ?_
  cases e : fb (some (.l (dk.map Ow.d)) :: envOf l ds) with
  | no => rw [e] at s7; exact s7.elim
  | bk env => rw [e] at s7; exact s7.elim
  | ct env => rw [e] at s7; exact s7.elim
  | nx env => rw [e] at s7; exact s7.elim
  | ex c env => rw [e] at s7; exact s7.elim
  | rt r env =>
    rw [e] at s7
    cases r with
    | l os => exact s7.elim
    | m _ | t _ | k _ _ | n _ _ | o _ _ _ => exact s7.elim
    | d r =>
    simp only at s7
    intro v σ' F' H' fx fp' off st sat' ow nd
    cases el : lstAt 0 env with
    | none => rw [el] at s7; exact s7.elim
    | some dk' =>
    rw [el] at s7
    obtain ⟨a', vs', b1, b2, b3, b4, _⟩ := sat'.chg (lstAt_eq el)
    have o0 := off 0 rfl
    rw [b1] at o0
    simp at o0
    subst o0
    cases ow with
    | d q => exact s7 v F' H' vs' ⟨st.ff, st.fr, st.fn, fun b hb => .inl hb⟩ sat'.fh b2 b3 b4 q
end
end Mir
end
set_option Elab.async false
set_option linter.all false
set_option maxRecDepth 100000
set_option maxHeartbeats 4000000
noncomputable section
namespace RT
open PySem PySem.Spec PyProof.Rows
section
variable {prog : Program} {w : World} {A : Around} {E : Value → Shared → Prop} {s : Shared}
theorem init_rev {it l S : Addr} {items : Array Value} {R : Result → Shared → Prop} (hh : A.handled = none) (hit : s.heap.IsRevIter it l ((items.size : Int) - 1)) (hl : s.heap.IsList l items) (hne : l ≠ it) (hn : items.size ≤ sizeLine) (hSi : S ≠ it) (hSl : S ≠ l)
    (hS : s.heap.get? S = some { cls := .type "list", data := .seq #[] })
    (hQ : ∀ (h' : Heap) (tk : Nat) (acc : Array Value) (c : Nat), (∀ b o, b ≠ it → b ≠ S → s.heap.get? b = some o → h'.get? b = some o) → h'.get? S = some { cls := .type "list", dict := none, data := .seq acc c, slots := #[] } → ItemsOf (fun i v => items[items.size - 1 - i]? = some v) acc items.size → R (.ok (.ret .none)) { s with heap := h', toks := tk }) :
    wpAny (model prog w) A.in1 (Builtin.«list.__init__» ⟨[.ref S, .ref it], []⟩)
      (fun fin s' => match fin with | .done f => R (.ok f) s' | .again c' => c'.quiet = true ∧ codeAny (model prog w) A c' R s') (fun e s' => R (.error e) s') s := by
  have W := (Walks.listRev (prog := prog) (w := w) (A := A.in1) hh it l hne items).toS
  have hSf : S ∉ [it, l] := by simp only [List.mem_cons, List.not_mem_nil, or_false, not_or]; exact ⟨hSi, hSl⟩
  show wpAny _ A.in1 (do let old ← Builtin.List.listItems (.ref S); Builtin.List.listUpdate (.ref S) (fun _ => #[]); letGo old.toList.reverse; Builtin.List.listExtendWith (.ref S) (.ref it) .none) _ _ s
  refine wpAny_bind ?_
  unfold Builtin.List.listItems
  refine wpAny_bind (wpAny_seqItems hS rfl (wpAny_pure ?_))
  show wpAny _ A.in1 (updateSeq S (fun _ => #[]) >>= fun _ => letGo (#[] : Array Value).toList.reverse >>= fun _ => Builtin.List.listExtendWith (.ref S) (.ref it) .none) _ _ s
  refine wpAny_bind (wpAny_updateSeq hS rfl ?_)
  have hS₂ := Heap.get?_update_self (Obj.mapSeq (fun _ => (#[] : Array Value))) hS rfl
  have oth : ∀ b o, b ≠ S → s.heap.get? b = some o → (s.heap.update S (Obj.mapSeq (fun _ => (#[] : Array Value)))).get? b = some o :=
    fun b o hb e => (Heap.get?_update_other _ _ (Ne.symm hb)).trans e
  refine wpAny_bind (wpAny_letGo ?_)
  have hit1 : (s.heap.update S (Obj.mapSeq (fun _ => (#[] : Array Value)))).IsRevIter it l ((items.size : Int) - 1) := hit.at fun o e => oth it o (Ne.symm hSi) e
  have hl1 : (s.heap.update S (Obj.mapSeq (fun _ => (#[] : Array Value)))).IsList l items := by
    obtain ⟨o, ho, r⟩ := hl
    exact ⟨o, oth l o (Ne.symm hSl) ho, r⟩
  have hT : ({ s with heap := s.heap.update S (Obj.mapSeq (fun _ => (#[] : Array Value))) } : Shared).TypeIs (.ref it) "list_reverseiterator" := Heap.IsRevIter.typeIs (s := { s with heap := s.heap.update S (Obj.mapSeq (fun _ => (#[] : Array Value))) }) hit1
  have h1 : Builtin.List.listSameRef (.ref S) (.ref it) = false := by simp [Builtin.List.listSameRef, hSi]
  unfold Builtin.List.listExtendWith
  refine wpAny_bind (wpAny_typeOf hT ?_)
  rw [if_neg (by rw [h1]; decide)]
  refine wpAny_bind (wpAny_pyIter_revIter (s := { s with heap := s.heap.update S (Obj.mapSeq (fun _ => (#[] : Array Value))) }) hit1 ?_)
  refine wpAny_bind (wpAny_holding ?_)
  unfold Builtin.List.listLengthHint
  refine wpAny_bind (wpAny_specialOf hT nolen_lri ?_)
  show wpAny _ A.in1 (specialOf (Value.ref it) (Str.ofString "__length_hint__") >>= _) _ _ _
  refine wpAny_bind (wpAny_specialOf hT hint_lri ?_)
  generalize hid : ("list_reverseiterator.__length_hint__" : String) = id0
  wp_delta
  rw [show splitId id0 = some ("list_reverseiterator", "__length_hint__") from by subst hid; decide +kernel]
  subst hid
  refine wpAny_bind (wpAny_isInstance (b := true) hT (by rw [isSubtype_type]; kernel_rfl) ?_)
  refine wpAny_pure ?_
  rw [if_neg (by decide)]
  have e0 : ((items.size : Nat) : Int) - 1 - ((0 : Nat) : Int) = (items.size : Int) - 1 := by omega
  refine wpAny_pure ⟨plainId_quiet F.plain_extend_loop _, codeAny_extend_loopS W hn _ hSf _ items.size 0 _ _ _ rfl (Nat.zero_le _) ⟨Nat.zero_le _, by rw [e0]; exact hit1, hl1⟩ hS₂ (ItemsOf.nil _) fun s' acc' c' hm hS' hacc => ?_⟩
  rw [Moved.eq_with hm]
  refine hQ s'.heap s'.toks acc' c' (fun b o hb hb2 e => hm.heap b o (fun hmem => ?_) (oth b o hb2 e)) hS' hacc
  rcases List.mem_cons.mp hmem with e' | hmem
  · exact hb2 e'
  · exact hb (List.mem_singleton.mp hmem)
theorem call_list_rev {it l : Addr} {items : Array Value} {Q : Value → Shared → Prop} (hh : A.handled = none) (hit : s.heap.IsRevIter it l ((items.size : Int) - 1)) (hl : s.heap.IsList l items) (hne : l ≠ it) (hn : items.size ≤ sizeLine)
    (hQ : ∀ (h' : Heap) (tk : Nat) (acc : Array Value) (c : Nat), (∀ b o, b ≠ it → s.heap.get? b = some o → h'.get? b = some o) → h'.get? s.heap.objs.size = some { cls := .type "list", dict := none, data := .seq acc c, slots := #[] } → ItemsOf (fun i v => items[items.size - 1 - i]? = some v) acc items.size →
      Q (.ref s.heap.objs.size) { s with heap := h', toks := tk }) :
    wpAny (model prog w) A (call (.type "list") [.ref it]) Q E s := by
  obtain ⟨oi, hoi, _⟩ := id hit
  obtain ⟨ol, hol, _⟩ := id hl
  have hSi : s.heap.objs.size ≠ it := Nat.ne_of_gt (Heap.lt_size hoi)
  have hSl : s.heap.objs.size ≠ l := Nat.ne_of_gt (Heap.lt_size hol)
  refine callType_codes (Q₁ := fun obj s₁ => obj = .ref s.heap.objs.size ∧ s₁ = { s with heap := s.heap.push { cls := .type "list", data := .seq #[] } }) F.called_list (F.typeCall_list_1 _) F.entry_list_init
    (code_list_new _ ⟨rfl, rfl⟩) fun obj s₁ h₁ => ?_
  obtain ⟨rfl, rfl⟩ := h₁
  have hS : (s.heap.push { cls := .type "list", data := .seq #[] }).get? s.heap.objs.size = some { cls := .type "list", data := .seq #[] } := Heap.get?_push_size _ rfl
  refine ⟨⟨_, hS, rfl⟩, F.args_list_init_2 _ _, init_rev (A := A.in1) hh (hit.at fun o e => Heap.get?_push_of_some _ e) (hl.push _) hne hn hSi hSl hS fun h' tk acc c hk hS' hacc => ?_⟩
  exact ⟨rfl, hQ h' tk acc c (fun b o hb e => hk b o hb (fun z => absurd (Heap.lt_size e) (by rw [z]; exact Nat.lt_irrefl _)) (Heap.get?_push_of_some _ e)) hS' hacc⟩
end
end RT
namespace Mir
open PySem PySem.Spec PyProof.Rows L2 RT
def tListRev (K : Kw) (te : TE) : TE := fun σ H Q => te σ H fun v H1 => ∃ (a : Addr) (xs : List V), v = .ref a ∧ SqL K H1 a xs ∧ ∀ q, H1 q = none → Q (.ref q) (upd H1 q (.lst xs.reverse))
section
variable {X : Cx} {W : WX}
theorem pe_listRev {e : Expr} {te : TE} {p p2 pos pos2 : Pos} (hc : X.calm = true) (hg : Gl X "list") (hm : X.mg "list" = none) (hg2 : Gl X "reversed") (hm2 : X.mg "reversed" = none) (he : PE X e te)
    (hs : starEach [e] X.env = (false, eval e X.env) :: starEach [] X.env := by rfl)
    (hs2 : starEach [.Call (.Name "reversed" p2) [e] [] pos2] X.env = (false, eval (.Call (.Name "reversed" p2) [e] [] pos2) X.env) :: starEach [] X.env := by rfl) :
    PE X (.Call (.Name "list" p) [.Call (.Name "reversed" p2) [e] [] pos2] [] pos) (tListRev X.KK te) := by
  refine ⟨fun pins s σ H Q I h => ?_⟩
  refine Call_ (ld_blt I hg hm boot_list (PyProof.Rows.callWith_type1 (args_cons (Call_ (ld_blt I hg2 hm2 PyProof.Rows.boot_reversed (PyProof.Rows.callWith_type1 (args_cons (thn (he.run pins s σ H _ I h) fun u s1 ⟨v, H1, I1, r1, q1⟩ => args_nil ?_) hs) hs rfl))) hs2) hs2 rfl))
  obtain ⟨a, xs, ev, hq, q⟩ := q1
  subst ev
  obtain rfl : u = Value.ref a := r1
  obtain ⟨its, rv, p', hz⟩ := I1.list hq
  refine call_reversed_list p'.isList (args_nil ?_)
  have k0 : ∀ b o, s1.heap.get? b = some o → (s1.heap.push (revObj a ((its.toArray.size : Int) - 1))).get? b = some o := fun b o e => Heap.get?_push_of_some _ e
  have I2 : Inv X pins σ H1 { s1 with heap := s1.heap.push (revObj a ((its.toArray.size : Int) - 1)) } := I1.kept (t' := s1.toks) k0
  obtain ⟨f0, f1, f2, f3, f4, f5⟩ := I1.fpOk (H' := H1) (b := s1.heap.objs.size) (Nat.le_refl _) (I1.hok.fresh (Nat.le_refl _))
  have hl := p'.isList
  obtain ⟨ol, hol, _⟩ := id hl
  have hne : a ≠ s1.heap.objs.size := Nat.ne_of_lt (Heap.lt_size hol)
  have hn : its.toArray.size ≤ sizeLine := by rw [List.size_toArray, ← rv.length]; exact hz
  refine call_list_rev (s := { s1 with heap := s1.heap.push (revObj a ((its.toArray.size : Int) - 1)) }) (I1.ok.hd hc) ⟨_, Heap.get?_push_size _ rfl, rfl, rfl⟩ (hl.push _) hne hn fun h' tk acc c hk hS hi => ?_
  have FP : FpOk X pins H1 s1.heap.objs.size := I1.fpOk (Nat.le_refl _) (I1.hok.fresh (Nat.le_refl _))
  refine ⟨.ref (s1.heap.push (revObj a ((its.toArray.size : Int) - 1))).objs.size, upd H1 (s1.heap.push (revObj a ((its.toArray.size : Int) - 1))).objs.size (.lst xs.reverse), I2.turnedNew (t' := tk) (ch := [s1.heap.objs.size]) (fun b o hb e => hk b o (fun z => hb (by simp [z])) e) (fun b hb => by rw [List.mem_singleton.mp hb]; exact FP) (Nat.le_refl _) ?_, rfl, q _ (I2.hok.fresh (Nat.le_refl _))⟩
  exact ⟨by rw [List.length_reverse]; exact hz, acc.toList, c, vals_rev rv hi, by rw [Array.toArray_toList]; exact hS⟩
def gListRev : D → Option Ow
  | .list ds => some (.l (ds.reverse.map Ow.d))
  | _ => none
@[simp] theorem gListRev_list (ds : List D) : gListRev (.list ds) = some (.l (ds.reverse.map Ow.d)) := rfl
theorem DpAll.reverse {K : Kw} {H : Hp} : ∀ {ds : List D} {vs : List V}, DpAll K H vs ds → DpAll K H vs.reverse ds.reverse
  | [], _, h => by cases h; exact .nil
  | d :: ds, _, h => by
    cases h with
    | cons h1 h2 =>
      rw [List.reverse_cons, List.reverse_cons]
      exact Mir.DpAll.append (DpAll.reverse h2) (.cons h1 .nil)
def eListRev (f : Ev → R D) (env : Ev) : R Ow := (f env).bind fun d => R.of (gListRev d)
@[simp] theorem eListRev_eq (f : Ev → R D) (env : Ev) : eListRev f env = (f env).bind fun d => R.of (gListRev d) := rfl
theorem de_listRev {e : Expr} {p p2 pos pos2 : Pos} {f : Ev → R D} (hc : X.calm = true) (hg : Gl X "list") (hm : X.mg "list" = none) (hg2 : Gl X "reversed") (hm2 : X.mg "reversed" = none) (he : DL X W e f)
    (hs : starEach [e] X.env = (false, eval e X.env) :: starEach [] X.env := by rfl)
    (hs2 : starEach [.Call (.Name "reversed" p2) [e] [] pos2] X.env = (false, eval (.Call (.Name "reversed" p2) [e] [] pos2) X.env) :: starEach [] X.env := by rfl) :
    DE X W (.Call (.Name "list" p) [.Call (.Name "reversed" p2) [e] [] pos2] [] pos) (eListRev f) := by
  obtain ⟨t, pe, s⟩ := he
  refine ⟨_, pe_listRev hc hg hm hg2 hm2 pe hs hs2, fun F H σ env fp Q sat hp => ?_⟩
  refine s.go sat hp fun d v F1 H1 sat1 q _ h1 => ?_
  obtain ⟨o, ho, h2⟩ := post_of h1
  cases d with
  | list ds =>
    cases ho
    obtain ⟨a, vs, rfl, q1, q2⟩ := q
    refine ⟨a, vs, rfl, q1, fun b hb => ?_⟩
    exact h2 _ _ _ (Ext.own sat1.fh hb _) ⟨[b], .l (free_of sat1.fh hb) upd_same (OwnAll.of_dp (DpAll.reverse q2)), by simp, by simpa using hb⟩
  | _ => cases ho
end
end Mir
end
set_option Elab.async false
set_option linter.all false
set_option maxRecDepth 100000
set_option maxHeartbeats 4000000
noncomputable section
namespace Mir
open PySem PySem.Spec PyProof.Rows L2
def repS (z : Str) (n : Nat) : Str := ⟨(List.replicate n z.cps.toList).flatten.toArray⟩
theorem foldl_rep (a : Array Nat) : ∀ (n : Nat) (b : Array Nat), ((List.replicate n a).foldl (· ++ ·) b) = ⟨b.toList ++ (List.replicate n a.toList).flatten⟩
  | 0, b => by simp
  | n + 1, b => by
    rw [List.replicate_succ, List.foldl_cons, foldl_rep a n, List.replicate_succ, List.flatten_cons]
    simp
section
variable {X : Cx} {W : WX} {a b : Expr} {pos : Pos} {f g : Ev → R D}
theorem op_mul_strN : OpR X (binaryOp .Mult) (fun x y H Q => ∃ (z : Str) (n : Nat), x = .str z ∧ y = .int (n : Int) ∧ 1 ≤ n ∧ n ≤ 1000000 ∧ z.length * n ≤ sizeLine ∧ Q (.str (repS z n)) H) := by
  intro pins s σ H x y v u Q I rx ry h
  obtain ⟨z, n, rfl, rfl, h1, hn, hz, q⟩ := h
  obtain ⟨t, rfl⟩ := rx
  obtain ⟨t', rfl⟩ := ry
  have s0 : sizeLine = 16777216 := sizeLine_eq
  refine PySem.P.mul_str ?_ (fun _ _ => ?_) (fun _ _ => ?_) ?_
  · rw [decide_eq_false (by omega), decide_eq_false (by omega)]; rfl
  · rw [Int.not_lt]
    refine Int.le_ediv_of_mul_le (by omega) ?_
    have : ((z.length * n : Nat) : Int) ≤ 16777216 := by omega
    rw [Int.natCast_mul] at this
    omega
  · unfold Builtin.Str.tooLong
    rw [Int.toNat_natCast]
    exact decide_eq_false (by omega)
  · rw [if_neg (by omega)]
    have e1 : (⟨(List.replicate (n : Int).toNat z.cps).foldl (· ++ ·) #[]⟩ : Str) = repS z n := by
      rw [foldl_rep, Int.toNat_natCast]
      unfold repS
      simp
    split
    · rename_i c
      have ez : repS z n = z := by
        unfold repS
        simp only [Bool.or_eq_true, beq_iff_eq] at c
        rcases c with c | c
        · have : n = 1 := by omega
          subst this
          simp
        · have : z.cps.toList = [] := by
            have : z.cps.size = 0 := c
            simpa using this
          rw [this]
          cases z with
          | mk a => simp at this ⊢; subst this; simp
      rw [ez] at q
      exact ⟨.str z, H, I, ⟨_, rfl⟩, q⟩
    · rw [e1]
      refine ⟨?_, ⟨.str (repS z n), H, I.tok _, ⟨_, rfl⟩, q⟩⟩
      have : (repS z n).length = n * z.length := by
        show (repS z n).cps.size = n * z.cps.size
        unfold repS
        simp
      rw [this, Nat.mul_comm]
      exact hz
def gMulS : D → D → Option D
  | .int i, .int j => gMul (.int i) (.int j)
  | .str z, .int n => if 1 ≤ n ∧ n ≤ 1000000 ∧ z.length * n.toNat ≤ sizeLine then some (.str (repS z n.toNat)) else none
  | _, _ => none
@[simp] theorem gMulS_int (i j : Int) : gMulS (.int i) (.int j) = gMul (.int i) (.int j) := rfl
theorem gMulS_str {z : Str} {n : Nat} (h : 1 ≤ n) (h2 : n ≤ 1000000) (h3 : z.length * n ≤ sizeLine) : gMulS (.str z) (.int (n : Int)) = some (.str (repS z n)) := if_pos ⟨by omega, by omega, by rw [Int.toNat_natCast]; exact h3⟩
theorem opS_mulS {K : Kw} : OpS K (fun x y H Q => rI (fun i j => CMul i j ∨ CMulW i j) (fun i j => .int (i * j)) x y H Q ∨ ∃ (z : Str) (n : Nat), x = .str z ∧ y = .int (n : Int) ∧ 1 ≤ n ∧ n ≤ 1000000 ∧ z.length * n ≤ sizeLine ∧ Q (.str (repS z n)) H) gMulS := by
  intro H x y dx dy d Q hx hy e q
  unfold gMulS at e
  split at e
  · exact .inl (opS_I H x y _ _ d Q hx hy e q)
  · split at e
    · rename_i z n c
      cases e
      cases dp_str hx
      cases dp_int hy
      refine .inr ⟨z, n.toNat, rfl, by rw [Int.toNat_of_nonneg (by omega)], by omega, by omega, c.2.2, q _ fun F => .str _⟩
    · cases e
  · cases e
theorem op_mulSV : OpR X (binaryOp .Mult) (fun x y H Q => rI (fun i j => CMul i j ∨ CMulW i j) (fun i j => .int (i * j)) x y H Q ∨ ∃ (z : Str) (n : Nat), x = .str z ∧ y = .int (n : Int) ∧ 1 ≤ n ∧ n ≤ 1000000 ∧ z.length * n ≤ sizeLine ∧ Q (.str (repS z n)) H) := OpR.or op_mulV op_mul_strN
theorem df_mulS (ha : DV X W a f) (hb : DV X W b g) : DF X W (.BinOp a .Mult b pos) (eBin gMulS f g) := df_bin op_mulSV opS_mulS ha hb

def gIsB : D → D → Option D
  | .bool p, .bool q => some (.bool (p == q))
  | _, _ => none
def gNotB : D → D → Option D
  | .bool p, .bool q => some (.bool (!(p == q)))
  | _, _ => none
@[simp] theorem gIsB_bool (p q : Bool) : gIsB (.bool p) (.bool q) = some (.bool (p == q)) := rfl
@[simp] theorem gNotB_bool (p q : Bool) : gNotB (.bool p) (.bool q) = some (.bool (!(p == q))) := rfl
section
variable {F G : Ev → R (D × Ev)}
theorem xf_add_int (ha : DXF X a F) (hb : DXF X b G) : DXF X (.BinOp a .Add b pos) (xBin (gI0 fun i j => i + j) F G) := xf_bin op_add opS_I0 ha hb
theorem xf_mul (ha : DXF X a F) (hb : DXF X b G) : DXF X (.BinOp a .Mult b pos) (xBin gMul F G) := xf_bin op_mulV opS_I ha hb
theorem xf_mod (ha : DXF X a F) (hb : DXF X b G) : DXF X (.BinOp a .Mod b pos) (xBin gMod F G) := xf_bin op_mod opS_I ha hb
end
end
end Mir
end
set_option Elab.async false
set_option linter.all false
set_option maxRecDepth 100000
set_option maxHeartbeats 4000000
noncomputable section
namespace Mir
open PySem PySem.Spec L2
section
variable {X : Cx} {W : WX} {S : Nat → Bool} {pos : Pos}
/-- a target stored from an expression that changes own lists -/
def sXAsg (g : D → Ev → Option Ev) (f : Ev → R (D × Ev)) (env : Ev) : SR := match f env with
  | .ok (d, env1) => match g d env1 with
    | some env2 => .nx env2
    | none => .no
  | _ => .no
theorem ds_xasg {e : Expr} {f : Ev → R (D × Ev)} {g : D → Ev → Option Ev} {tg : Expr} {ix : List Nat} (he : DXF X e f) (hg : DG X tg ix g) (hs : swapsWithSole [tg] e pos.line X.env = pure false := by rfl) (hw : swappedStores [tg] e X.env = pure none := by rfl)
    (h1 : (assignEach [tg] X.env).map (·.2) = [assign tg X.env] := by rfl) (hS : ix.all S = true := by rfl) : DS X W S (.Assign [tg] e pos) (sXAsg g f) := by
  obtain ⟨t, p, s⟩ := he
  refine ⟨_, ps_asg p hg hs hw h1, fun F H σ env fp D sat h => ?_⟩
  refine s F H σ env fp _ sat ?_
  unfold sXAsg at h
  cases e : f env with
  | no => rw [e] at h; exact h
  | ex c => rw [e] at h; exact h
  | ok pr =>
    obtain ⟨d, env1⟩ := pr
    rw [e] at h
    intro v F1 H1 fp1 st sat1 q
    have h' : PostS X W S σ F H fp D (match g d env1 with
      | some env2 => .nx env2
      | none => .no) := h
    split at h'
    · rename_i env2 e2
      exact ⟨F1, env1, fp1, d, env2, sat1, q, e2, fun σ' fp' sat' sub off => h' σ' F1 H1 fp' (.of off hS) (st.subset sub) sat'⟩
    · exact h'.elim
end
def flatD : D → Bool
  | .none => true
  | .bool _ => true
  | .int _ => true
  | .str _ => true
  | _ => false
theorem flat_dp {K : Kw} {H H' : Hp} {v : V} {d : D} (h : Dp K H v d) (f : flatD d = true) : Dp K H' v d := by
  cases d with
  | none => rw [dp_none h]; exact .non
  | bool b => rw [dp_bool h]; exact .bl b
  | int b => rw [dp_int h]; exact .int b
  | str b => rw [dp_str h]; exact .str b
  | list ds => cases f
  | tuple ds => cases f
  | dict ds => cases f
def flatR : R Ow → R D
  | .ok (.d x) => if flatD x = true then .ok x else .no
  | .ex c => .ex c
  | _ => .no
def eCallV (m : List D → R Ow) (fa : Ev → R (List D)) (env : Ev) : R D := (fa env).bind fun ds => flatR (m ds)
@[simp] theorem eCallV_eq (m : List D → R Ow) (fa : Ev → R (List D)) (env : Ev) : eCallV m fa env = (fa env).bind fun ds => flatR (m ds) := rfl
@[simp] theorem flatR_bool (b : Bool) : flatR (.ok (.d (.bool b))) = .ok (.bool b) := rfl
@[simp] theorem flatR_int (b : Int) : flatR (.ok (.d (.int b))) = .ok (.int b) := rfl
@[simp] theorem flatR_none : flatR (.ok (.d .none)) = .ok .none := rfl
section
variable {X : Cx} {W : WX} {e : Expr} {es : List Expr} {pos p : Pos}
theorem df_callV {k n : Nat} {f : Addr} {fd : FuncData} {ps : List Str} {x : Str} {m : List D → R Ow} {fa : Ev → R (List D)} (F : FnOk X.prog X.w X.K X.mg X.base (L2.CX X.prog X.w) k f fd ps (spM X.KK X.mg n m)) (tk : Takes X W) (hr : Room k X.A) (hg : Gl X x) (hm : X.mg x = some (.ref f))
    (hk : PySem.W.keepIn X.K (.ref f) = true) (hb : Binds X.K fd ps []) (ha : DAv X W (e :: es) fa) (hn : ∀ ds env, fa env = .ok ds → ds.length = n)
    (hdb : (x == ("__debug__" : Str)) = false := by decide) (he : starEach (e :: es) X.env = (false, eval e X.env) :: starEach es X.env := by rfl) (hpl : (backTo pos (starEach es X.env)).any (·.1) = false := by rfl) :
    DF X W (.Call (.Name x p) (e :: es) [] pos) (eCallV m fa) := by
  obtain ⟨t, pa, s⟩ := ha
  refine ⟨_, pe_callS F hr hg hm hk hb (fun σ => passAt tk σ) pa hdb he hpl, fun F0 H σ env fp Q sat hp => ?_⟩
  refine s.choose sat hp (fun z => z _) fun ds ed k => k _ fun vs F1 H1 sat1 q _ h1 => ?_
  refine ⟨H1, ds, Same.refl _, q, hn ds env ed, ?_⟩
  have back : ∀ {F' H' : Hp}, Ext H1 H1 F' H' → Ext F1 H1 F1 H' := fun x => ⟨Same.refl _, x.hh, fun b o e => .inl e, sat1.fh.trans x.hh⟩
  cases em : m ds with
  | no => rw [em] at h1; exact h1
  | ex c =>
    rw [em] at h1
    have h1 : ∀ C F' H', X.mg c = some (.ref C) → Ext F1 H1 F' H' → W (.ref C) none σ H' := h1
    exact fun C F' H' mc x => h1 C F1 H' mc (back x)
  | ok r =>
    rw [em] at h1
    cases r with
    | l os => exact h1.elim
    | m _ | t _ | k _ _ | n _ _ | o _ _ _ => exact h1.elim
    | d y =>
      by_cases c : flatD y = true
      · have e1 : flatR (.ok (.d y)) = .ok y := if_pos c
        rw [e1] at h1
        have h1 : ∀ v F' H', Ext F1 H1 F' H' → Dp X.KK F' v y → Q v H' := h1
        intro v F' H' x ⟨fo, ow, _⟩
        cases ow with
        | d q => exact h1 v F1 H' (back x) (flat_dp q c)
      · have e1 : flatR (.ok (.d y)) = .no := if_neg c
        rw [e1] at h1
        exact h1.elim
end
/-- what a def that changes the list handed first tells -/
def finK : SR → R Ow
  | .rt (.d r) env => match lstAt 0 env with
    | some dk' => .ok (.d (.tuple [r, .list dk']))
    | none => .no
  | _ => .no
theorem runK_fin (k : Nat) (f : Ev → SR) (dk ds : List D) : runK k f (.list dk :: ds) = finK (f (some (.l (dk.map Ow.d)) :: envOf k ds)) := by
  unfold runK finK
  rfl
section
variable (env : Ev)
theorem lstAt_of {i : Nat} {env : Ev} {dk : List D} (h : env[i]? = some (some (.l (dk.map Ow.d)))) : lstAt i env = some dk := by unfold lstAt; rw [h]; exact unDs_map dk
@[simp] theorem lstAt_0 (dk : List D) : lstAt 0 (some (.l (dk.map Ow.d)) :: env) = some dk := lstAt_of rfl
@[simp] theorem lstAt_0n : lstAt 0 (some (.l []) :: env) = some [] := rfl
@[simp] theorem lstAt_s (i : Nat) (x : Option Ow) : lstAt (i + 1) (x :: env) = lstAt i env := by unfold lstAt; rw [List.getElem?_cons_succ]
theorem finK_rt (r : D) (dk : List D) : finK (.rt (.d r) (some (.l (dk.map Ow.d)) :: env)) = .ok (.d (.tuple [r, .list dk]))  := by
  show (match lstAt 0 (some (.l (dk.map Ow.d)) :: env) with
    | some dk' => (.ok (.d (.tuple [r, .list dk'])) : R Ow)
    | none => .no) = _
  rw [lstAt_0]
@[simp] theorem xP_eq (f : Ev → R D) : xP f env = match f env with
  | .ok d => .ok (d, env)
  | _ => .no := rfl
@[simp] theorem xBin_eq (g : D → D → Option D) (f h : Ev → R (D × Ev)) : xBin g f h env = (f env).bind fun p => (h p.2).bind fun q => (R.of (g p.1 q.1)).bind fun d => .ok (d, q.2) := rfl
@[simp] theorem xNil_eq : xNil env = .ok ([], env) := rfl
@[simp] theorem xCons_eq (f : Ev → R (D × Ev)) (g : Ev → R (List D × Ev)) : xCons f g env = (f env).bind fun p => (g p.2).bind fun q => .ok (p.1 :: q.1, q.2) := rfl
@[simp] theorem xCall_eq (m : List D → R Ow) (fa : Ev → R (List D × Ev)) : xCall m fa env = (fa env).bind fun p => match m p.1 with
  | .ok r => .ok (viewD r, p.2)
  | _ => .no := rfl
@[simp] theorem xCa_eq (g : List D → Option Ow) (fa : Ev → R (List D × Ev)) : xCa g fa env = (fa env).bind fun p => match g p.1 with
  | some r => .ok (viewD r, p.2)
  | none => .no := rfl
@[simp] theorem sXSet_eq (i : Nat) (f : Ev → R (D × Ev)) : sXSet i f env = match f env with
  | .ok (d, env1) => if i < env1.length then .nx (env1.set i (some (.d d))) else .no
  | _ => .no := by unfold sXSet xSet; rfl
@[simp] theorem sXRet_eq (f : Ev → R (D × Ev)) : sXRet f env = match f env with
  | .ok (d, env1) => .rt (.d d) env1
  | _ => .no := rfl
@[simp] theorem sXAsg_eq (g : D → Ev → Option Ev) (f : Ev → R (D × Ev)) : sXAsg g f env = match f env with
  | .ok (d, env1) => match g d env1 with
    | some env2 => .nx env2
    | none => .no
  | _ => .no := rfl
/-- a deck's def called: what it tells, and the deck behind it -/
theorem xCallK_of {m : List D → R Ow} {i : Nat} {fa : Ev → R (List D × Ev)} {env env1 : Ev} {ds dk0 dk dk' : List D} {r : D} (h0 : env[i]? = some (some (.l (dk0.map Ow.d)))) (h1 : fa env = .ok (ds, env1)) (h2 : env1[i]? = some (some (.l (dk.map Ow.d)))) (h3 : m (.list dk :: ds) = .ok (.d (.tuple [r, .list dk']))) :
    xCallK m i fa env = .ok (r, env1.set i (some (.l (dk'.map Ow.d)))) := by
  unfold xCallK
  rw [lstAt_of h0]
  simp only [h1, R.bind_ok, lstAt_of h2, h3]
theorem xPop_of {i : Nat} {env : Ev} {dk : List D} {d : D} (h : env[i]? = some (some (.l ((dk ++ [d]).map Ow.d)))) : xPop i env = .ok (d, env.set i (some (.l (dk.map Ow.d)))) := by
  unfold xPop
  rw [lstAt_of h]
  simp
end
end Mir
end
set_option Elab.async false
set_option linter.all false
set_option maxRecDepth 100000
set_option maxHeartbeats 4000000
noncomputable section
namespace Mir
open PySem PySem.Spec PyProof.Rows L2
section
variable {X : Cx} {W : WX} {o e : Expr} {apos pos : Pos} {f g : Ev → R D}
end
end Mir
end
set_option Elab.async false
set_option linter.all false
set_option maxRecDepth 100000
set_option maxHeartbeats 4000000
noncomputable section
namespace Mir
open PySem PySem.Spec PyProof.Rows L2
section
variable {X : Cx} {W : WX} {S : Nat → Bool} {e a b : Expr} {es : List Expr} {pos p : Pos} {x : Str}
def xTup (f : Ev → R (List D × Ev)) (env : Ev) : R (D × Ev) := (f env).bind fun p => guard (p.1.length ≤ sizeLine) (.ok (.tuple p.1, p.2))
theorem guard_postX {K : Kw} {α β : Type} {P : Hp → α → β → Prop} {F H : Hp} {fp : List Addr} {σ : L2.St} {c : Prop} {r : R (α × Ev)} {Q : β → Hp → Prop} (h : PostX K P F H fp σ (guard c r) Q) : c ∧ PostX K P F H fp σ r Q := by
  unfold guard at h
  split at h
  · exact ⟨‹_›, h⟩
  · exact h.elim
theorem xf_tup {x1} {f : Ev → R (List D × Ev)} (hf : DXA X es f) : DXF X (.Tuple es x1 pos) (xTup f) := by
  obtain ⟨t, p, s⟩ := hf
  refine ⟨_, pe_tup p, fun F H σ env fp Q sat h => ?_⟩
  refine s.go sat h fun ds env1 vs F1 H1 fp1 st1 sat1 q h1 => ?_
  obtain ⟨hl, h2⟩ := guard_postX h1
  refine ⟨by rw [DpAll.len q]; exact hl, fun p hp => ?_⟩
  have xx := Ext.frz sat1.fh hp (.tup vs)
  exact h2 _ _ _ fp1 (StepS.of_ext xx fp1) (sat1.ext xx) (.tup (SqT.of upd_same) (dpaUp q xx.ff))
theorem xf_ix {f g : Ev → R (D × Ev)} (ha : DXF X a f) (hb : DXF X b g) (hs : PlainIx b := by exact fun _ _ => rfl) : DXF X (.Subscript a b pos) (xBin gIx f g) := by
  obtain ⟨ta, pa, sa⟩ := ha
  obtain ⟨tb, pb, sb⟩ := hb
  refine ⟨_, pe_ix ix_seq pa pb hs, fun F H σ env fp Q sat hp => ?_⟩
  refine sa.go sat hp fun d env1 v F1 H1 fp1 st1 sat1 q h1 => ?_
  refine sb.go sat1 h1 fun d' env2 v' F2 H2 fp2 st2 sat2 q' h2 => ?_
  have r : Dp X.KK F2 v d := dpUp q st2.ff
  have r' : Dp X.KK F2 v' d' := q'
  clear q q'
  cases hz : gIx d d' with
  | none => simp only [hz] at h2; exact h2.elim
  | some z =>
  simp only [hz] at h2
  have h3 : ∀ u, Dp X.KK F2 u z → Q u H2 := fun u hu => h2 u F2 H2 fp2 (StepS.of_ext (.refl sat2.fh) fp2) sat2 hu
  unfold gIx at hz
  split at hz
  · rename_i ds i
    cases dp_int r'
    obtain ⟨p, vs, rfl, p1, p2⟩ := dp_lst r
    obtain ⟨w, w1, w2⟩ := atI_dp p2 hz
    exact .inl ⟨p, vs, i, w, rfl, rfl, sat2.fh.seq p1, w1, h3 _ w2⟩
  · rename_i ds i
    cases dp_int r'
    obtain ⟨p, vs, rfl, p1, p2⟩ := dp_tup r
    obtain ⟨w, w1, w2⟩ := atI_dp p2 hz
    exact .inr (.inl ⟨p, vs, i, w, rfl, rfl, SqT_mono sat2.fh p1, w1, h3 _ w2⟩)
  · split at hz
    · rename_i zz i c
      cases dp_int r'
      cases dp_str r
      obtain ⟨cc, c1, c2⟩ := Option.map_eq_some_iff.mp hz
      subst c2
      exact .inr (.inr ⟨_, _, cc, rfl, rfl, c, c1, h3 _ (.str _)⟩)
    · cases hz
  · cases hz
def xBinO (g : D → D → Option Ow) (f h : Ev → R (D × Ev)) (env : Ev) : R (D × Ev) := (f env).bind fun p => (h p.2).bind fun q => (R.of (g p.1 q.1)).bind fun o => .ok (viewD o, q.2)
theorem xf_add {f g : Ev → R (D × Ev)} (ha : DXF X a f) (hb : DXF X b g) : DXF X (.BinOp a .Add b pos) (xBinO gAdd f g) := by
  obtain ⟨ta, pa, sa⟩ := ha
  obtain ⟨tb, pb, sb⟩ := hb
  refine ⟨_, pe_op op_addAll pa pb, fun F H σ env fp Q sat hp => ?_⟩
  refine sa.go sat hp fun d env1 v F1 H1 fp1 st1 sat1 q h1 => ?_
  refine sb.go sat1 h1 fun d' env2 v' F2 H2 fp2 st2 sat2 q' h2 => ?_
  cases hz : gAdd d d' with
  | none => simp only [hz] at h2; exact h2.elim
  | some o =>
  simp only [hz] at h2
  refine opG_add F2 H2 v v' d d' o Q sat2.fh (PSq.of (H0 := H2) sat2.fh (dpUp q st2.ff)) (PSq.of (H0 := H2) sat2.fh q') hz fun u F' H' xx ⟨fo, ow, nd, fresh⟩ => ?_
  obtain ⟨F3, x3, q3⟩ := xx.freeze ow fresh
  exact h2 u F3 H' fp2 (StepS.of_ext x3 fp2) (sat2.ext x3) q3
def XIt (K : Kw) (F : Hp) (items : List D) (J : It) : Prop := WalkF K J F items
def DXI (X : Cx) (tg e : Expr) (f : Ev → R (List D × Ev)) : Prop := ∃ wi, PI X tg e wi ∧ SmX X.KK (XIt X.KK) wi f
def xRg1 (f : Ev → R (List D × Ev)) (env : Ev) : R (List D × Ev) := (f env).bind fun p => (rg1 p.1).bind fun ds => .ok (ds, p.2)
theorem xi_range1 {tg : Expr} {f : Ev → R (List D × Ev)} (hg : Gl X "range") (hm : X.mg "range" = none) (h : DXA X [e] f) (hs : starEach [e] X.env = [(false, eval e X.env)] := by rfl) : DXI X tg (.Call (.Name "range" p) [e] [] pos) (xRg1 f) := by
  obtain ⟨t, pa, s⟩ := h
  refine ⟨_, pi_range1 hg hm pa hs, fun F H σ env fp Q sat hp => ?_⟩
  refine s.go sat hp fun ds env1 vs F1 H1 fp1 st1 sat1 q h1 => ?_
  cases er : rg1 ds with
  | no => simp only [er] at h1; exact h1.elim
  | ex c => simp only [er] at h1; exact h1.elim
  | ok items =>
  simp only [er] at h1
  unfold rg1 at er
  split at er
  · rename_i j
    unfold guard at er
    split at er
    · rename_i c
      cases er
      obtain ⟨v, rfl, w⟩ := daf1 q
      cases dp_int w
      exact ⟨_, rfl, c.1, c.2, h1 _ F1 H1 fp1 (StepS.of_ext (.refl sat1.fh) fp1) sat1 (walkF_r _ _)⟩
    · cases er
  · cases er
def sXFor (it : Ev → R (List D × Ev)) (g : D → Ev → Option Ev) (f : Ev → SR) (env : Ev) : SR := match it env with
  | .ok (ds, env1) => forL g f ds env1
  | _ => .no
theorem ds_xfor {tg iter : Expr} {body : List Stmt} {fi : Ev → R (List D × Ev)} {g : D → Ev → Option Ev} {fs : Ev → SR} (hp : PassesOwn (model X.prog X.w) X.A X.env X.xe) (hc : X.calm = true) {ix : List Nat} (hi : DXI X tg iter fi) (hg : DG X tg ix g) (hb : DSs X W S body fs)
    (hs : ∀ x, foldedSetIterable iter X.env x = pure x := by intro _; rfl) (hS : ix.all S = true := by rfl) : DS X W S (.For tg iter body [] pos) (sXFor fi g fs) := by
  obtain ⟨wi, pi, si⟩ := hi
  obtain ⟨tb, pb, sb⟩ := hb
  refine ⟨_, ps_for hp hc pi hg pb hs, fun F H σ env fp D sat h => ?_⟩
  unfold sXFor at h
  refine si F H σ env fp _ sat ?_
  cases ei : fi env with
  | no => rw [ei] at h; exact h
  | ex c => rw [ei] at h; exact h
  | ok pr =>
  obtain ⟨items, env0⟩ := pr
  rw [ei] at h
  intro J F1 H1 fp1 st1 sat1 wk
  have wk : WalkF X.KK J F1 items := wk
  have h1 : PostS X W S σ F1 H1 fp1 D (forL g fs items env0) := PostS.step (show PostS X W S σ F H fp D (forL g fs items env0) from h) (.refl _ _) st1
  refine ⟨fun i m σ' H' => m = items.length - i ∧ i ≤ items.length ∧ ∃ F' env' fp', Same F1 F' ∧ Sat X.KK F' H' σ' env' fp' ∧ PostS X W S σ' F' H' fp' D (forL g fs (items.drop i) env'),
    ⟨items.length, by simp, Nat.zero_le _, F1, env0, fp1, Same.refl _, sat1, h1⟩, ?_⟩
  rintro i m σ' H' ⟨rfl, hi, F', env', fp', st, sat', h2⟩
  by_cases hlt : i < items.length
  · refine .inr ⟨wk.go i F' H' hlt st sat'.fh, fun σ2 H2 => ∃ F2 env2 fp2, Same F1 F2 ∧ Sat X.KK F2 H2 σ2 env2 fp2 ∧ PostS X W S σ2 F2 H2 fp2 D (forL g fs (items.drop (i + 1)) env2), ?_, ?_⟩
    · rintro σ2 H2 ⟨F2, env2, fp2, a, b, c⟩
      exact ⟨items.length - (i + 1), by omega, rfl, hlt, F2, env2, fp2, a, b, c⟩
    · intro x H3 y
      obtain ⟨d, F3, e1, x3, dp⟩ := wk.yld i F' H' x H3 hlt st sat'.fh y
      have ed : items.drop i = d :: items.drop (i + 1) := by
        rw [List.drop_eq_getElem_cons hlt]
        have : items[i] = d := by rw [List.getElem?_eq_getElem hlt] at e1; exact Option.some.inj e1
        rw [this]
      rw [ed] at h2
      unfold forL at h2
      cases eg : g d env' with
      | none => rw [eg] at h2; exact h2.elim
      | some env1 =>
        rw [eg] at h2
        simp only at h2
        refine ⟨F3, env', fp', d, env1, sat'.ext x3, dp, eg, fun σ4 fp4 sat4 sub4 off4 => ?_⟩
        have st4 : StepS F' H' fp' F3 H3 fp4 := (StepS.of_ext x3 fp').subset sub4
        have h4 := PostS.step h2 (.of off4 hS) st4
        refine sb F3 H3 σ4 env1 fp4 _ sat4 ?_
        cases ef : fs env1 with
        | no => rw [ef] at h4; exact h4
        | nx env2 => rw [ef] at h4; exact fun σ5 F5 H5 fp5 o5 s5 sat5 => ⟨F5, env2, fp5, st.trans (x3.ff.trans s5.ff), sat5, PostS.step h4 o5 s5⟩
        | ct env2 => rw [ef] at h4; exact fun σ5 F5 H5 fp5 o5 s5 sat5 => ⟨F5, env2, fp5, st.trans (x3.ff.trans s5.ff), sat5, PostS.step h4 o5 s5⟩
        | bk env2 => rw [ef] at h4; exact h4
        | rt r env2 => rw [ef] at h4; exact h4
        | ex c env2 => rw [ef] at h4; exact h4
  · have e : i = items.length := by omega
    subst e
    rw [List.drop_length] at h2
    exact .inl ⟨wk.stop F' H' st sat'.fh, h2 σ' F' H' fp' (.refl _ _) (StepS.of_ext (.refl sat'.fh) fp') sat'⟩
theorem xf_lc_state {g : D → Ev → Option Ev} {fe : Ev → R (D × Ev)} {ix vs : List Nat} (hix : ∀ i ∈ ix, i ∈ vs) {F H : Hp} {σ : L2.St} {env : Ev} {fp : List Addr} {Q : VK} (sat : Sat X.KK F H σ env fp) {J : It} {items : List D} (wk : WalkF X.KK J F items)
    (h1 : PostX X.KK (XD X.KK) F H fp σ (guard (items.length ≤ sizeLine) ((lcX g fe vs (wipeE env vs) items).bind fun p => .ok (.list p.1, p.2))) Q) :
    tLc (fun _ H R => R J H) (tgOf X.KK ix g) (tOf X.KK (Post X W0 PTb) cYes) (tOfX X.KK fe) vs σ H Q := by
  have x1 : Ext F H F H := .refl sat.fh
  have hz : items.length ≤ sizeLine := by
    by_cases c : items.length ≤ sizeLine
    · exact c
    · have e : guard (items.length ≤ sizeLine) ((lcX g fe vs (wipeE env vs) items).bind fun p => (.ok (.list p.1, p.2) : R (D × Ev))) = .no := by unfold guard; exact if_neg c
      rw [e] at h1
      exact h1.elim
  rw [guard_pos hz] at h1
  intro Dd hD
  have hD1 : F Dd = none := free_of sat.fh hD
  cases el : lcX g fe vs (wipeE env vs) items with
  | no => rw [el] at h1; exact h1.elim
  | ex c => rw [el] at h1; exact h1.elim
  | ok pz =>
  obtain ⟨all, envZ⟩ := pz
  rw [el] at h1
  have h2 : ∀ v F' H' fp', StepS F H fp F' H' fp' → Sat X.KK F' H' σ envZ fp' → XD X.KK F' (.list all) v → Q v H' := h1
  obtain ⟨fpw, satw, subw⟩ := wipe_sat sat vs
  let Iv : Nat → Hp → Prop := fun i H' => ∃ F' env' fp' acc accD rest, StepS F H fpw F' H' (Dd :: fp') ∧ Sat X.KK F' H' (wipe σ vs) env' fp' ∧ F' Dd = none ∧ H' Dd = some (.lst acc) ∧ DpAll X.KK F' acc accD ∧ Dd ∉ fp' ∧ accD.length = i ∧ (∀ v ∈ vs, ∀ o, env'[v]? ≠ some (some o)) ∧ lcX g fe vs env' (items.drop i) = .ok (rest, envZ) ∧ all = accD ++ rest
  have wiped : ∀ env : Ev, ∀ v ∈ vs, ∀ o, (wipeE env vs)[v]? ≠ some (some o) := fun env v hv o e => by
    rw [wipeE_get env vs v hv] at e
    cases q : env[v]? with
    | none => rw [q] at e; cases e
    | some u => rw [q] at e; cases e
  have nD0 : Dd ∉ fpw := fun z => by
    obtain ⟨_, w, e⟩ := satw.en.there Dd z
    rw [hD] at e; cases e
  refine ⟨fun i m H' => m = items.length - i ∧ i ≤ items.length ∧ Iv i H', ⟨items.length, by simp, Nat.zero_le _, F, wipeE env vs, fpw, [], [], all, ⟨Same.refl _, fun b o e n => ?_, fun b o e => .inl e, fun b hb => ?_⟩, satw.ext (Ext.own sat.fh hD _), hD1, upd_same, .nil, nD0, rfl, wiped env, el, rfl⟩, ?_⟩
  · rw [upd_ne (ne_of_none e hD)]; exact e
  · rcases List.mem_cons.mp hb with z | z
    · rw [z]; exact .inr hD
    · exact .inl z
  rintro i m H' ⟨rfl, hi, F', env', fp', acc, accD, rest, st, sat', fD, hDd, hacc, nD, hl, wp, er, ea⟩
  have nn : ∀ c, H' c = none → c ∈ fpw ∨ H c = none := fun c h => by
    cases q : H c with
    | none => exact .inr rfl
    | some o =>
      by_cases hc : c ∈ fpw
      · exact .inl hc
      · rw [st.fr c o q hc] at h; cases h
  by_cases hlt : i < items.length
  · refine .inr ⟨wk.go i F' H' hlt st.ff sat'.fh, Iv (i + 1), fun H2 z => ⟨items.length - (i + 1), by omega, rfl, hlt, z⟩, fun v H3 y => ?_⟩
    obtain ⟨d, F3, e1, x3, dp⟩ := wk.yld i F' H' v H3 hlt st.ff sat'.fh y
    have ed : items.drop i = d :: items.drop (i + 1) := by
      rw [List.drop_eq_getElem_cons hlt]
      have : items[i] = d := by rw [List.getElem?_eq_getElem hlt] at e1; exact Option.some.inj e1
      rw [this]
    rw [ed] at er
    unfold lcX at er
    cases eg : g d env' with
    | none => rw [eg] at er; cases er
    | some env1 =>
    rw [eg] at er
    simp only at er
    cases ee : fe env1 with
    | no => rw [ee] at er; cases er
    | ex c => rw [ee] at er; cases er
    | ok pr =>
    obtain ⟨r, env2⟩ := pr
    rw [ee] at er
    simp only [R.bind_ok] at er
    cases er2 : lcX g fe vs (wipeE env2 vs) (items.drop (i + 1)) with
    | no => rw [er2] at er; cases er
    | ex c => rw [er2] at er; cases er
    | ok pq =>
    obtain ⟨rest2, envQ⟩ := pq
    rw [er2] at er
    simp only [R.bind_ok] at er
    cases er
    refine ⟨F3, env', fp', d, env1, sat'.ext x3, dp, eg, fun σ2 fp2 sat2 sub2 off2 => ?_⟩
    have ew := wipe_off off2 hix
    refine ⟨ew, F3, env1, fp2, sat2, fun v4 F4 H4 x4 ev4 => ?_⟩
    obtain rfl : v4 = true := ev4
    rw [if_pos rfl]
    refine ⟨F4, env1, fp2, sat2.ext x4, ?_⟩
    rw [ee]
    intro y5 F5 H5 fp5 st5 sat5 dy
    have xx := x3.trans x4
    have n2 : Dd ∉ fp2 := fun z => nD (sub2 Dd z)
    have hD4 : H4 Dd = some (.lst acc) := xx.hh _ _ hDd
    have hD5 : H5 Dd = some (.lst acc) := st5.fr Dd _ hD4 n2
    have fD4 : F4 Dd = none := by
      cases q : F4 Dd with
      | none => rfl
      | some u =>
        rcases xx.fn Dd u q with z | z
        · rw [fD] at z; cases z
        · rw [hDd] at z; cases z
    have fD5 : F5 Dd = none := by
      cases q : F5 Dd with
      | none => rfl
      | some u =>
        rcases st5.fn Dd u q with z | z | z
        · rw [fD4] at z; cases z
        · exact absurd z n2
        · rw [hD4] at z; cases z
    have n5 : Dd ∉ fp5 := fun z => by
      rcases st5.sub Dd z with q | q
      · exact n2 q
      · rw [hD4] at q; cases q
    obtain ⟨fp6, sat6, sub6⟩ := wipe_sat sat5 vs
    rw [ew] at sat6
    have n6 : Dd ∉ fp6 := fun z => n5 (sub6 Dd z)
    have la := DpAll.len hacc
    have stp : StepS F5 H5 [Dd] F5 (upd H5 Dd (.lst (acc ++ [y5]))) [] := mut_step (.refl sat6.fh) hD5
    refine ⟨acc, hD5, by omega, F5, wipeE env2 vs, fp6, acc ++ [y5], accD ++ [r], rest2, ⟨st.ff.trans (xx.ff.trans st5.ff), fun b o e n => ?_, fun b o e => ?_, fun b hb => ?_⟩, ⟨mut_same sat6.fh fD5, sat6.en.keep stp fun b hb z => n6 (by rw [← List.mem_singleton.mp z]; exact hb), sat6.nd⟩, fD5, upd_same, DpAll.append (dpaUp hacc (xx.ff.trans st5.ff)) (.cons dy .nil), n6, by simp [hl], wiped env2, er2, by simp [ea]⟩
    · have e' := st.fr b o e n
      rw [upd_ne (ne_of_none e hD)]
      refine st5.fr b o (xx.hh _ _ e') fun z => ?_
      rcases st.sub b (List.mem_cons_of_mem _ (sub2 b z)) with q | q
      · exact n q
      · rw [e] at q; cases q
    · rcases st5.fn b o e with z | z | z
      · rcases xx.fn b o z with q | q
        · exact st.fn b o q
        · exact .inr (nn b q)
      · exact .inr (st.sub b (List.mem_cons_of_mem _ (sub2 b z)))
      · exact .inr (nn b (xx.hh.free z))
    · rcases List.mem_cons.mp hb with z | z
      · rw [z]; exact .inr hD
      · rcases st5.sub b (sub6 b z) with q | q
        · exact st.sub b (List.mem_cons_of_mem _ (sub2 b q))
        · exact nn b (xx.hh.free q)
  · have e : i = items.length := by omega
    subst e
    rw [List.drop_length] at er
    cases er
    refine .inl ⟨wk.stop F' H' st.ff sat'.fh, ?_⟩
    have sfD : Same F' (upd F' Dd (.lst acc)) := same_upd fD _
    have stD : StepS F' H' [Dd] (upd F' Dd (.lst acc)) H' [] := ⟨sfD, fun b o e _ => e, fun b o e => by
      by_cases c : b = Dd
      · exact .inr (.inl (by rw [c]; exact List.mem_cons_self))
      · rw [upd_ne c] at e; exact .inl e, fun b z => nomatch z⟩
    have fhD : Same (upd F' Dd (.lst acc)) H' := fun b o e => by
      by_cases c : b = Dd
      · subst c; rw [upd_same] at e; cases e; exact hDd
      · rw [upd_ne c] at e; exact sat'.fh b o e
    refine h2 (.ref Dd) (upd F' Dd (.lst acc)) H' fp' ⟨x1.ff.trans (st.ff.trans sfD), fun b o e n => ?_, fun b o e => ?_, fun b hb => ?_⟩ ⟨fhD, EnvAt.re (sat'.en.keep stD fun b hb z => nD (by rw [← List.mem_singleton.mp z]; exact hb)) (by rw [wipe_length]) fun j o ej => ?_, sat'.nd⟩ ?_
    · exact st.fr b o (x1.hh _ _ e) fun z => n (subw b z)
    · by_cases c : b = Dd
      · subst c
        exact .inr (.inr (x1.hh.free hD))
      · rw [upd_ne c] at e
        rcases st.fn b o e with q | q | q
        · exact (x1.fn b o q).imp id .inr
        · exact .inr (.inl (subw b q))
        · exact .inr (.inr (x1.hh.free q))
    · rcases st.sub b (List.mem_cons_of_mem _ hb) with q | q
      · exact .inl (subw b q)
      · exact .inr (x1.hh.free q)
    · rw [wipe_get]
      rw [if_neg fun z => wp j z o ej]
    · rw [ea, List.append_nil]
      exact .lst (SqL.of upd_same) (dpaUp hacc sfD)
def xLc2 (fi : Ev → R (List D × Ev)) (g : D → Ev → Option Ev) (fe : Ev → R (D × Ev)) (vs : List Nat) (env : Ev) : R (D × Ev) := match fi env with
  | .ok (ds, env1) => guard (ds.length ≤ sizeLine) ((lcX g fe vs (wipeE env1 vs) ds).bind fun p => .ok (.list p.1, p.2))
  | _ => .no
theorem xf_lc2_core {wi : TI} {g : D → Ev → Option Ev} {fi : Ev → R (List D × Ev)} {fe : Ev → R (D × Ev)} {ix vs : List Nat} (si : SmX X.KK (XIt X.KK) wi fi) (hix : ∀ i ∈ ix, i ∈ vs) :
    SmX X.KK (XD X.KK) (tLc wi (tgOf X.KK ix g) (tOf X.KK (Post X W0 PTb) cYes) (tOfX X.KK fe) vs) (xLc2 fi g fe vs) := by
  intro F H σ env fp Q sat hp
  unfold xLc2 at hp
  refine si F H σ env fp _ sat ?_
  cases ei : fi env with
  | no => rw [ei] at hp; exact hp.elim
  | ex c => rw [ei] at hp; exact hp.elim
  | ok pr =>
  obtain ⟨items, env0⟩ := pr
  rw [ei] at hp
  intro J F1 H1 fp1 st1 sat1 wk
  exact xf_lc_state hix sat1 wk (PostX.step hp st1)
theorem ds_xsetLc2 {elt tg iter : Expr} {scope : Scope} {own : List (Str × Nat)} {g : D → Ev → Option Ev} {fi : Ev → R (List D × Ev)} {fe : Ev → R (D × Ev)} {ix : List Nat} {y : Str} {py spos : Pos} (i : Nat) (hc : X.calm = true) (hN : X.N.Nodup) (hi : DXI X tg iter fi) (ok : BlkOk X.N X.env.scope scope own)
    (hg : ∀ (s : Shared) (H : Hp) (C : Addr) (cl : List (Str × Addr)) (fp : List Addr), DG (X.blk s H scope (compEnvC scope cl C X.env) fp) tg ix g)
    (he : ∀ (s : Shared) (H : Hp) (C : Addr) (cl : List (Str × Addr)) (fp : List Addr), DXF (X.blk s H scope (compEnvC scope cl C X.env) fp) elt fe) (hix : ∀ i ∈ ix, i ∈ own.map (·.2) := by decide) (hs : ∀ x, foldedSetIterable iter X.env x = pure x := by intro _; rfl)
    (hy : X.N[i]? = some y := by rfl) (hyl : X.env.scope.names.lookup y = some .local := by rfl) (hsw : swapsWith (.ListComp elt [⟨tg, iter, [], 0⟩] scope pos) (some (.Name y py)) spos.line X.env = pure true := by exact sw_true rfl rfl rfl (by decide +kernel)) (hS : S i = true := by rfl) :
    DS X W S (.Assign [.Name y py] (.ListComp elt [⟨tg, iter, [], 0⟩] scope pos) spos) (sXSet i (xLc2 fi g fe (own.map (·.2)))) := by
  obtain ⟨wi, pi, si⟩ := hi
  exact ⟨_, ps_setLc (g := tgOf X.KK ix g) hc hN hy hyl hsw pi ok (fun s H C cl fp => hg s H C cl fp) (fun s H C cl fp => (dts_nil (X := X.blk s H scope (compEnvC scope cl C X.env) fp) (W := W0)).can) (fun s H C cl fp => (he s H C cl fp).can) hs, fun F H σ env fp D sat h => xf_lc2_core si hix F H σ env fp _ sat (xset_post hS h)⟩
end
section
variable {X : Cx} {W : WX} {S : Nat → Bool} {e : Expr} {pos cpos apos npos : Pos} {x : Str}
def sXApp (i : Nat) (f : Ev → R (D × Ev)) (env : Ev) : SR := match lstAt i env with
  | none => .no
  | some _ => match f env with
    | .ok (d, env1) => match lstAt i env1 with
      | some dk => if dk.length < sizeLine then .nx (env1.set i (some (.l ((dk ++ [d]).map Ow.d)))) else .no
      | none => .no
    | _ => .no
theorem ds_xapp {f : Ev → R (D × Ev)} (i : Nat) (he : DXF X e f) (hN : X.N[i]? = some x := by rfl) (hv : Vis X.env.scope x := by first | exact Or.inl rfl | exact Or.inr (Or.inl rfl) | exact Or.inr (Or.inr rfl)) (hd : (x == ("__debug__" : Str)) = false := by decide) (hcd : (x == ("__classdict__" : Str)) = false := by decide)
    (hbase : attributeBase (.Name x npos) "append" X.env (eval (.Name x npos) X.env) = eval (.Name x npos) X.env := by rfl)
    (hfew : ((backTo cpos (starEach [e] X.env)).all (fun x => !x.1) && (backToKw cpos (keywordEach [] X.env)).all (fun x => x.1.isSome) && decide ([e].length + ([] : List Keyword).length + (if ([] : List Keyword).isEmpty then 0 else 1) < 30)) = true := by rfl)
    (hline : (apos.endLine == cpos.line) = true := by rfl) (hs : starEach [e] X.env = (false, eval e X.env) :: starEach [] X.env := by rfl) (hplain : (backTo cpos (starEach [] X.env)).any (·.1) = false := by rfl)
    (hsw : swapsWith (.Call (.Attribute (.Name x npos) "append" apos) [e] [] cpos) none pos.line X.env = pure false := by rfl) : DS X W S (.Expr (.Call (.Attribute (.Name x npos) "append" apos) [e] [] cpos) pos) (sXApp i f) := by
  obtain ⟨t, p, s⟩ := he
  refine ⟨_, ps_expr (pe_bm PySem.F.plainAttrs_list PySem.F.slot_list_append PySem.F.type_list_append mt_append (pe_var hN hv hd hcd) (pa_cons p pa_nil hs) hbase hfew hline hs hplain) hsw, fun F H σ env fp D sat h => ?_⟩
  unfold sXApp at h
  cases e0 : lstAt i env with
  | none => rw [e0] at h; exact h.elim
  | some dk0 =>
  rw [e0] at h
  simp only at h
  obtain ⟨a0, vs0, b1, b2, b3, b4, b5⟩ := sat.chg (lstAt_eq e0)
  refine ⟨.ref a0, b1, .inl ⟨rfl, vs0, SqL.of b3⟩, ?_⟩
  refine s F H σ env fp _ sat ?_
  cases ef : f env with
  | no => rw [ef] at h; exact h.elim
  | ex c => rw [ef] at h; exact h.elim
  | ok pr =>
  obtain ⟨d, env1⟩ := pr
  rw [ef] at h
  simp only at h
  intro v F1 H1 fp1 st1 sat1 q
  cases e1 : lstAt i env1 with
  | none => rw [e1] at h; exact h.elim
  | some dk =>
  rw [e1] at h
  simp only at h
  have h2 : PostS X W S σ F H fp D (if dk.length < sizeLine then .nx (env1.set i (some (.l ((dk ++ [d]).map Ow.d)))) else .no) := h
  split at h2
  · rename_i hz
    obtain ⟨a, vs, c1, c2, c3, c4, c5⟩ := sat1.chg (lstAt_eq e1)
    rw [b1] at c1
    cases c1
    obtain ⟨fp', d1, d2⟩ := c5 F1 (upd H1 a0 (.lst (vs ++ [v]))) (vs ++ [v]) (dk ++ [d]) (pop_step sat1.fh c3) (mut_same sat1.fh c2) c2 upd_same (DpAll.append c4 (.cons q .nil))
    exact ⟨a0, vs, v, rfl, rfl, c3, by rw [DpAll.len c4]; exact hz, h2 σ F1 _ fp' (.refl _ _) (st1.trans d1) d2⟩
  · exact h2.elim
def sRevS (i : Nat) (env : Ev) : SR := match lstAt i env with
  | some dk => .nx (env.set i (some (.l (dk.reverse.map Ow.d))))
  | none => .no
theorem ds_revS (i : Nat) (hN : X.N[i]? = some x := by rfl) (hv : Vis X.env.scope x := by first | exact Or.inl rfl | exact Or.inr (Or.inl rfl) | exact Or.inr (Or.inr rfl)) (hd : (x == ("__debug__" : Str)) = false := by decide) (hcd : (x == ("__classdict__" : Str)) = false := by decide)
    (hbase : attributeBase (.Name x npos) "reverse" X.env (eval (.Name x npos) X.env) = eval (.Name x npos) X.env := by rfl) (hline : (apos.endLine == cpos.line) = true := by rfl)
    (hsw : swapsWith (.Call (.Attribute (.Name x npos) "reverse" apos) [] [] cpos) none pos.line X.env = pure false := by rfl) : DS X W S (.Expr (.Call (.Attribute (.Name x npos) "reverse" apos) [] [] cpos) pos) (sRevS i) := by
  refine ⟨_, ps_expr (pe_bm0 PySem.F.plainAttrs_list PySem.F.slot_list_reverse PySem.F.type_list_reverse mt_reverse (pe_var hN hv hd hcd) hbase hline) hsw, fun F H σ env fp D sat h => ?_⟩
  unfold sRevS at h
  cases e0 : lstAt i env with
  | none => rw [e0] at h; exact h.elim
  | some dk =>
  rw [e0] at h
  obtain ⟨a, vs, b1, b2, b3, b4, b5⟩ := sat.chg (lstAt_eq e0)
  refine ⟨.ref a, b1, .inl ⟨rfl, vs, SqL.of b3⟩, ?_⟩
  obtain ⟨fp', d1, d2⟩ := b5 F (upd H a (.lst vs.reverse)) vs.reverse dk.reverse (pop_step sat.fh b3) (mut_same sat.fh b2) b2 upd_same (DpAll.reverse b4)
  exact ⟨a, vs, rfl, rfl, b3, h σ F _ fp' (.refl _ _) d1 d2⟩
section
variable (env : Ev)
@[simp] theorem xTup_eq (f : Ev → R (List D × Ev)) : xTup f env = (f env).bind fun p => guard (p.1.length ≤ sizeLine) (.ok (.tuple p.1, p.2)) := rfl
@[simp] theorem xBinO_eq (g : D → D → Option Ow) (f h : Ev → R (D × Ev)) : xBinO g f h env = (f env).bind fun p => (h p.2).bind fun q => (R.of (g p.1 q.1)).bind fun o => .ok (viewD o, q.2) := rfl
@[simp] theorem xRg1_eq (f : Ev → R (List D × Ev)) : xRg1 f env = (f env).bind fun p => (rg1 p.1).bind fun ds => .ok (ds, p.2) := rfl
theorem sXFor_of {it : Ev → R (List D × Ev)} {g : D → Ev → Option Ev} {f : Ev → SR} {env env1 : Ev} {ds : List D} (h : it env = .ok (ds, env1)) : sXFor it g f env = forL g f ds env1 := by unfold sXFor; rw [h]
theorem sXApp_of {i : Nat} {f : Ev → R (D × Ev)} {env env1 : Ev} {d : D} {dk0 dk : List D} (h0 : env[i]? = some (some (.l (dk0.map Ow.d)))) (h1 : f env = .ok (d, env1)) (h2 : env1[i]? = some (some (.l (dk.map Ow.d)))) (hl : dk.length < sizeLine) : sXApp i f env = .nx (env1.set i (some (.l ((dk ++ [d]).map Ow.d)))) := by
  unfold sXApp
  rw [lstAt_of h0]
  simp only [h1, lstAt_of h2]
  rw [if_pos hl]
theorem sRevS_of {i : Nat} {env : Ev} {dk : List D} (h : env[i]? = some (some (.l (dk.map Ow.d)))) : sRevS i env = .nx (env.set i (some (.l (dk.reverse.map Ow.d)))) := by
  unfold sRevS
  rw [lstAt_of h]
theorem xLc2_of {fi : Ev → R (List D × Ev)} {g : D → Ev → Option Ev} {fe : Ev → R (D × Ev)} {vs : List Nat} {env env1 env0 env' : Ev} {ds rs : List D} (h1 : fi env = .ok (ds, env1)) (hl : ds.length ≤ sizeLine) (h0 : wipeE env1 vs = env0) (h2 : lcX g fe vs env0 ds = .ok (rs, env')) : xLc2 fi g fe vs env = .ok (.list rs, env') := by
  unfold xLc2
  rw [h1]
  simp only
  unfold guard
  rw [if_pos hl, h0, h2]
  rfl
end
end
end Mir
end
set_option Elab.async false
set_option linter.all false
set_option maxRecDepth 100000
set_option maxHeartbeats 4000000
noncomputable section
namespace Mir
open PySem PySem.Spec PyProof.Rows L2
def pairsD : List D → Option (List (Str × D))
  | [] => some []
  | .tuple [.str k, v] :: ds => (pairsD ds).map fun r => (k, v) :: r
  | _ :: _ => none
/-- the last pair of the key -/
def lastP : List (Str × D) → Str → Option D
  | [], _ => none
  | p :: ps, k => (lastP ps k).or (if p.1 = k then some p.2 else none)
def asPairs : D → Option (List (Str × D))
  | .list ds => pairsD ds
  | _ => none
def lookP (ps : List (Str × D)) : D → Option D
  | .str k => lastP ps k
  | _ => none
def eDictIx (f g : Ev → R D) (env : Ev) : R D := (f env).bind fun d => match asPairs d with
  | none => .no
  | some ps => (g env).bind fun k => R.of (lookP ps k)
def inP (ps : List (Str × D)) (no : Bool) : D → Option D
  | .str k => some (.bool ((lastP ps k).isSome != no))
  | _ => none
def eInDict (no : Bool) (g f : Ev → R D) (env : Ev) : R D := (g env).bind fun k => (f env).bind fun d => match asPairs d with
  | none => .no
  | some ps => R.of (inP ps no k)
@[simp] theorem eDictIx_eq (f g : Ev → R D) (env : Ev) : eDictIx f g env = (f env).bind fun d => match asPairs d with
  | none => .no
  | some ps => (g env).bind fun k => R.of (lookP ps k) := rfl
@[simp] theorem eInDict_eq (no : Bool) (g f : Ev → R D) (env : Ev) : eInDict no g f env = (g env).bind fun k => (f env).bind fun d => match asPairs d with
  | none => .no
  | some ps => R.of (inP ps no k) := rfl
@[simp] theorem lookP_str (ps : List (Str × D)) (k : Str) : lookP ps (.str k) = lastP ps k := rfl
@[simp] theorem inP_str (ps : List (Str × D)) (no : Bool) (k : Str) : inP ps no (.str k) = some (.bool ((lastP ps k).isSome != no)) := rfl
section
variable {X : Cx} {W : WX} {e key : Expr} {p pos cpos : Pos} {f g : Ev → R D}
end
section
variable {X : Cx} {W : WX} {a b c : Expr} {pos : Pos} {f g h : Ev → R D}
end
end Mir
end
set_option Elab.async false
set_option linter.all false
set_option maxRecDepth 100000
set_option maxHeartbeats 4000000
noncomputable section
namespace Mir
open PySem PySem.Spec PyProof.Rows L2
theorem fits (x : Int) (h : -(2 ^ 62) ≤ x) (h' : x < 2 ^ 62) : Builtin.Range.rangeFitsLong x = true := by
  unfold Builtin.Range.rangeFitsLong
  simp only [Bool.and_eq_true, decide_eq_true_eq]
  constructor <;> omega
section
variable {X : Cx} {W : WX} {tg e e2 e3 : Expr} {p pos : Pos} {fa : Ev → R (List D)}
end
end Mir
end
set_option Elab.async false
set_option linter.all false
set_option maxRecDepth 100000
set_option maxHeartbeats 4000000
noncomputable section
namespace Mir
open PySem PySem.Spec PyProof.Rows L2
open AutoSeq1 (wpAny_loadPart')
section
variable {X : Cx} {W : WX} {S : Nat → Bool} {e : Expr} {pos cpos apos npos : Pos} {x : Str}
def asT : D → R (List D)
  | .tuple ds => .ok ds
  | _ => .no
@[simp] theorem asT_tup (ds : List D) : asT (.tuple ds) = .ok ds := rfl
def sExtT (i : Nat) (f : Ev → R D) (env : Ev) : SR := ownL i env fun os => (f env).st env fun d => (asT d).st env fun ds => if os.length + ds.length ≤ sizeLine then .nx (env.set i (some (.l (os ++ ds.map Ow.d)))) else .no
@[simp] theorem sExtT_eq (i : Nat) (f : Ev → R D) (env : Ev) : sExtT i f env = ownL i env fun os => (f env).st env fun d => (asT d).st env fun ds => if os.length + ds.length ≤ sizeLine then .nx (env.set i (some (.l (os ++ ds.map Ow.d)))) else .no := rfl
end
end Mir
end
set_option Elab.async false
set_option linter.all false
set_option maxRecDepth 100000
set_option maxHeartbeats 4000000
noncomputable section
namespace Mir
open PySem PySem.Spec PySem.Calls PyProof.Rows L2
def keyEq : D → D → Bool
  | .int i, .int j => i == j
  | .str x, .str y => x == y
  | _, _ => false
def isKey : D → Bool
  | .int _ => true
  | .str _ => true
  | _ => false
def getP (ps : List (D × D)) (k : D) : Option D := (ps.find? fun p => keyEq p.1 k).map (·.2)
def putP (ps : List (D × D)) (k v : D) : List (D × D) := if (ps.any fun p => keyEq p.1 k) = true then ps.map (fun p => if keyEq p.1 k = true then (p.1, v) else p) else ps ++ [(k, v)]
section
variable {X : Cx} {W : WX} {S : Nat → Bool} {e k : Expr} {pos tpos npos p2 : Pos} {x : Str} {f g : Ev → R D}
/-- {} -/
def eDictNew (_ : Ev) : R Ow := .ok (.m [])
@[simp] theorem eDictNew_eq (env : Ev) : eDictNew env = .ok (.m []) := rfl
/-- the own dict at a slot -/
def mAt (i : Nat) (env : Ev) : Option (List (D × D)) := match env[i]? with
  | some (some (.m ps)) => some ps
  | _ => none
/-- d[k], d any data that is a dict -/
def gGetD : D → D → Option D
  | .dict ps, k => if isKey k = true then getP ps k else none
  | _, _ => none
end
@[simp] theorem mAt_0 (ps : List (D × D)) (env : Ev) : mAt 0 (some (.m ps) :: env) = some ps := rfl
@[simp] theorem mAt_s (i : Nat) (x : Option Ow) (env : Ev) : mAt (i + 1) (x :: env) = mAt i env := by unfold mAt; rw [List.getElem?_cons_succ]
@[simp] theorem mAt_1 (a0 : Option Ow) (ps : List (D × D)) (env : Ev) : mAt 1 (a0 :: some (.m ps) :: env) = some ps := rfl
@[simp] theorem mAt_2 (a0 a1 : Option Ow) (ps : List (D × D)) (env : Ev) : mAt 2 (a0 :: a1 :: some (.m ps) :: env) = some ps := rfl
@[simp] theorem mAt_3 (a0 a1 a2 : Option Ow) (ps : List (D × D)) (env : Ev) : mAt 3 (a0 :: a1 :: a2 :: some (.m ps) :: env) = some ps := rfl
@[simp] theorem mAt_4 (a0 a1 a2 a3 : Option Ow) (ps : List (D × D)) (env : Ev) : mAt 4 (a0 :: a1 :: a2 :: a3 :: some (.m ps) :: env) = some ps := rfl
@[simp] theorem gGetD_dict (ps : List (D × D)) (k : D) : gGetD (.dict ps) k = if isKey k = true then getP ps k else none := rfl
@[simp] theorem isKey_int (i : Int) : isKey (.int i) = true := rfl
@[simp] theorem isKey_str (z : Str) : isKey (.str z) = true := rfl
end Mir
end
set_option Elab.async false
set_option linter.all false
set_option maxRecDepth 100000
set_option maxHeartbeats 4000000
noncomputable section
namespace Mir
open PySem PySem.Spec L2
section
variable {X : Cx} {W : WX} {S : Nat → Bool} {e k : Expr} {pos tpos npos p2 : Pos} {x : Str} {f g : Ev → R D}
/-- what a stateful expression tells, walked: a list -/
def xSeq (f : Ev → R (D × Ev)) (env : Ev) : R (List D × Ev) := (f env).bind fun p => match p.1 with
  | .list ds => .ok (ds, p.2)
  | _ => .no
@[simp] theorem xSeq_eq (f : Ev → R (D × Ev)) (env : Ev) : xSeq f env = (f env).bind fun p => match p.1 with
  | .list ds => .ok (ds, p.2)
  | _ => .no := rfl
end
end Mir
end
set_option Elab.async false
set_option linter.all false
set_option maxRecDepth 100000
set_option maxHeartbeats 4000000
noncomputable section
namespace Mir
open PySem PySem.Spec PyProof.Rows L2
/-- what is to be known of an own class over ValueError -/
structure ExcT (K : PySem.W.Frag) (mg : Str → Option Value) (x : Str) (C : Addr) : Prop where
  gC : mg x = some (.ref C)
  ex : PySem.W.excIn K C [.type "ValueError", .type "Exception", .type "BaseException", .type "object"] "ValueError.__new__" = true
  kC : PySem.W.keepIn K (.ref C) = true
  bP : PySem.W.subIn K (.ref C) (.type "BaseException") = some true
  tP : PySem.W.typeIn K (.ref C) = some (.type "type")
def sRaise (x : Str) (env : Ev) : SR := .ex x env
@[simp] theorem sRaise_eq (x : Str) (env : Ev) : sRaise x env = .ex x env := rfl
section
variable {X : Cx} {W : WX} {S : Nat → Bool} {pos p p2 np pos' : Pos} {x m : Str} {j : Nat} {C : Addr}
theorem PSs.imp {st : List Stmt} {t t' : TS} (h : PSs X st t) (k : ∀ D σ H, t' D σ H → t D σ H) : PSs X st t' := ⟨fun pins s σ H D I q => h.run pins s σ H D I (k D σ H q)⟩
/-- canonical: what a block's mirror asks -/
def tsOf (X : Cx) (W : WX) (S : Nat → Bool) (f : Ev → SR) : TS := fun D σ H => ∃ F env fp, Sat X.KK F H σ env fp ∧ PostS X W S σ F H fp D (f env)
theorem DSs.can {st : List Stmt} {f : Ev → SR} (h : DSs X W S st f) : PSs X st (tsOf X W S f) := by
  obtain ⟨t, p, s⟩ := h
  refine PSs.imp p ?_
  rintro D σ H ⟨F, env, fp, sat, h⟩
  exact s F H σ env fp D sat h
end
section
variable {X : Cx} {W : WX} {S : Nat → Bool} {i : Nat} {a : Addr} {pos p p2 np pos' : Pos} {x n T : Str} {e e1 e2 : Expr} {g g1 g2 : Ev → R D}
/-- a flat name -/
def eFlat (k : Nat) (env : Ev) : R D := (eVar k env).bind fun d => if flatD d = true then .ok d else .no
@[simp] theorem eFlat_eq (k : Nat) (env : Ev) : eFlat k env = (eVar k env).bind fun d => if flatD d = true then .ok d else .no := rfl
/-- int(a truth) -/
def eIntB (g : Ev → R D) (env : Ev) : R D := (g env).bind fun d => match d with
  | .bool b => .ok (.int (if b = true then 1 else 0))
  | _ => .no
@[simp] theorem eIntB_eq (g : Ev → R D) (env : Ev) : eIntB g env = (g env).bind fun d => match d with
  | .bool b => .ok (.int (if b = true then 1 else 0))
  | _ => .no := rfl
/-- + of whole numbers -/
def eAddI (g1 g2 : Ev → R D) (env : Ev) : R D := (g1 env).bind fun x => (g2 env).bind fun y => match x, y with
  | .int i, .int j => .ok (.int (i + j))
  | _, _ => .no
@[simp] theorem eAddI_eq (g1 g2 : Ev → R D) (env : Ev) : eAddI g1 g2 env = (g1 env).bind fun x => (g2 env).bind fun y => match x, y with
  | .int i, .int j => .ok (.int (i + j))
  | _, _ => .no := rfl
end
end Mir
end
set_option Elab.async false
set_option linter.all false
set_option maxRecDepth 100000
set_option maxHeartbeats 4000000
noncomputable section
namespace Mir
open PySem PySem.Spec PyProof.Rows L2
section
variable {X : Cx} {W : WX} {S : Nat → Bool} {i : Nat} {a : Addr} {pos p p2 np pos' : Pos} {x n T : Str} {e e1 e2 : Expr} {g g1 g2 : Ev → R D}
end
section
variable {K : PySem.W.Frag}
end
end Mir
end
set_option Elab.async false
set_option linter.all false
set_option maxRecDepth 100000
set_option maxHeartbeats 4000000
noncomputable section
namespace Mir
open PySem PySem.Spec PyProof.Rows L2
def gLtS : D → D → Option D
  | .str x, .str y => some (.bool (decide (x.cps.toList < y.cps.toList)))
  | _, _ => none
@[simp] theorem gLtS_str (x y : Str) : gLtS (.str x) (.str y) = some (.bool (decide (x.cps.toList < y.cps.toList))) := rfl
section
variable {X : Cx} {W : WX} {a b : Expr} {f g : Ev → R D} {pos : Pos}
end
end Mir
end
set_option Elab.async false
set_option linter.all false
set_option maxRecDepth 100000
set_option maxHeartbeats 4000000
noncomputable section
namespace Mir
open PySem PySem.Spec PyProof.Rows L2
section
variable {X : Cx} {W : WX} {S : Nat → Bool} {e k : Expr} {pos cpos apos npos tpos : Pos} {x : Str}
end
end Mir
end
set_option Elab.async false
set_option linter.all false
set_option maxRecDepth 100000
set_option maxHeartbeats 4000000
noncomputable section
namespace Mir
open PySem PySem.Spec PyProof.Rows L2
section
variable {K : Kw} {F H : Hp} {σ : L2.St} {env : Ev} {fp : List Addr}
end
section
variable {X : Cx} {W : WX} {S : Nat → Bool} {e k k2 : Expr} {pos cpos apos npos tpos tpos2 : Pos} {x : Str}
end
end Mir
end
set_option Elab.async false
set_option linter.all false
set_option maxRecDepth 100000
set_option maxHeartbeats 4000000
noncomputable section
namespace Mir
open PySem PySem.Spec PyProof.Rows L2
section
variable {X : Cx} {W : WX} {S : Nat → Bool} {e k : Expr} {es : List Expr} {pos cpos apos npos p p2 pos2 : Pos} {x : Str} {tg : Expr}
def mergeD (acc : List (D × D)) (ps : List (Str × D)) : List (D × D) := ps.foldl (fun acc p => putP acc (.str p.1) p.2) acc
def eDictOf (f : Ev → R D) (env : Ev) : R Ow := (f env).bind fun d => match asPairs d with
  | none => .no
  | some ps => .ok (.m (mergeD [] ps))
@[simp] theorem eDictOf_eq (f : Ev → R D) (env : Ev) : eDictOf f env = (f env).bind fun d => match asPairs d with
  | none => .no
  | some ps => .ok (.m (mergeD [] ps)) := rfl
def PAo (K : Kw) (H : Hp) (os : List Ow) (vs : List V) (F' H' : Hp) : Prop := ∃ fp, OwnAll K F' H' vs os fp ∧ fp.Nodup ∧ ∀ b ∈ fp, H b = none
def DAo (X : Cx) (W : WX) (es : List Expr) (f : Ev → R (List Ow)) : Prop := ∃ t, PA X es t ∧ Sm X W (PAo X.KK) t f
def oNil (_ : Ev) : R (List Ow) := .ok []
def oCons (f : Ev → R Ow) (g : Ev → R (List Ow)) (env : Ev) : R (List Ow) := (f env).bind fun o => (g env).map fun os => o :: os
@[simp] theorem oNil_eq (env : Ev) : oNil env = .ok [] := rfl
@[simp] theorem oCons_eq (f : Ev → R Ow) (g : Ev → R (List Ow)) (env : Ev) : oCons f g env = (f env).bind fun o => (g env).map fun os => o :: os := rfl
theorem dao_nil : DAo X W [] oNil := ⟨_, pa_nil, fun F H σ env fp Q sat h => h _ F H (.refl sat.fh) ⟨[], .nil, List.nodup_nil, fun b z => nomatch z⟩⟩
theorem dao_cons {f : Ev → R Ow} {g : Ev → R (List Ow)} (hf : DE X W e f) (hg : DAo X W es g) (hs : starEach (e :: es) X.env = (false, eval e X.env) :: starEach es X.env := by rfl) : DAo X W (e :: es) (oCons f g) := by
  obtain ⟨t, p, s⟩ := hf
  obtain ⟨t', p', s'⟩ := hg
  refine ⟨_, pa_cons p p' hs, fun F H σ env fp Q sat h => ?_⟩
  refine s F H σ env fp _ sat ?_
  unfold oCons at h
  cases ef : f env with
  | no => rw [ef] at h; exact h.elim
  | ex c => rw [ef] at h; exact h
  | ok o =>
    rw [ef] at h
    intro v F1 H1 x1 ⟨fx, ow, nx, fr⟩
    refine s' F1 H1 σ env fp _ (sat.ext x1) ?_
    cases eg : g env with
    | no => rw [eg] at h; exact h.elim
    | ex c => rw [eg] at h; exact fun C F' H' m x => h C F' H' m (x1.trans x)
    | ok os =>
      rw [eg] at h
      intro vs F2 H2 x2 ⟨fy, oy, ny, fry⟩
      have h' : Post X W (PAo X.KK) F H σ (.ok (o :: os)) Q := h
      refine h' (v :: vs) F2 H2 (x1.trans x2) ⟨fx ++ fy, .cons (ow.ext x2) oy, ?_, fun b hb => ?_⟩
      · rw [List.nodup_append]
        refine ⟨nx, ny, fun a ha b hb e => ?_⟩
        subst e
        obtain ⟨_, w, e⟩ := OwnAt.there _ _ _ ow a ha
        rw [fry a hb] at e; cases e
      · rcases List.mem_append.mp hb with z | z
        · exact fr b z
        · cases hz : H b with
          | none => rfl
          | some w => have := x1.hh _ _ hz; rw [fry b z] at this; cases this
def eLstO (f : Ev → R (List Ow)) (env : Ev) : R Ow := (f env).bind fun os => guard (os.length ≤ sizeLine) (.ok (.l os))
@[simp] theorem eLstO_eq (f : Ev → R (List Ow)) (env : Ev) : eLstO f env = (f env).bind fun os => guard (os.length ≤ sizeLine) (.ok (.l os)) := rfl
theorem de_lstO {f : Ev → R (List Ow)} (hf : DAo X W es f) : DE X W (.List es pos) (eLstO f) := by
  obtain ⟨t, p, s⟩ := hf
  refine ⟨_, pe_lst p, fun F H σ env fp Q sat h => ?_⟩
  refine s F H σ env fp _ sat ?_
  unfold eLstO at h
  cases ef : f env with
  | no => rw [ef] at h; exact h.elim
  | ex c => rw [ef] at h; exact h
  | ok os =>
    rw [ef] at h
    have h' : Post X W (POw X.KK) F H σ (guard (os.length ≤ sizeLine) (.ok (.l os))) Q := h
    intro vs F1 H1 x1 ⟨fy, oy, ny, fry⟩
    obtain ⟨hl, h2⟩ := guard_post h'
    refine ⟨by rw [OwnAll.len oy]; exact hl, fun p hp => ?_⟩
    have fh := x1.fh
    have x := Ext.own fh hp (.lst vs)
    have fp0 : ∀ b ∈ fy, b ≠ p := fun b hb e => by
      subst e
      obtain ⟨_, w, e⟩ := OwnAll.there _ _ _ oy b hb
      rw [hp] at e; cases e
    refine h2 _ F1 _ (x1.trans x) ⟨p :: fy, .l (free_of fh hp) upd_same (oy.ext x), List.nodup_cons.mpr ⟨fun z => fp0 p z rfl, ny⟩, fun b hb => ?_⟩
    rcases List.mem_cons.mp hb with z | z
    · subst z
      cases hz : H b with
      | none => rfl
      | some w => have := x1.hh _ _ hz; rw [hp] at this; cases this
    · exact fry b z
def eLenO (f : Ev → R Ow) (env : Ev) : R D := (f env).bind fun o => match o with
  | .l os => .ok (.int (os.length : Nat))
  | _ => .no
@[simp] theorem eLenO_eq (f : Ev → R Ow) (env : Ev) : eLenO f env = (f env).bind fun o => match o with
  | .l os => .ok (.int (os.length : Nat))
  | _ => .no := rfl
end
end Mir
end
set_option Elab.async false
set_option linter.all false
set_option maxRecDepth 100000
set_option maxHeartbeats 4000000
noncomputable section
namespace Mir
open PySem PySem.Spec PyProof.Rows L2
section
variable {K : Kw} {F H : Hp} {σ : L2.St} {env : Ev} {fp : List Addr}
end
section
variable {X : Cx} {W : WX} {S : Nat → Bool} {e k k2 : Expr} {pos npos tpos tpos2 : Pos} {x : Str}
end

section
variable {X : Cx} {W : WX} {S : Nat → Bool} {e : Expr} {st : Stmt} {fs : Ev → SR}
/-- an item of an own list, which is data -/
def asD : Ow → R D
  | .d x => .ok x
  | _ => .no
@[simp] theorem asD_d (x : D) : asD (.d x) = .ok x := rfl
end
end Mir
end
set_option Elab.async false
set_option linter.all false
set_option maxRecDepth 100000
set_option maxHeartbeats 4000000
noncomputable section
namespace Mir
open PySem PySem.Spec PyProof.Rows L2
def forO (k : Nat) (f : Ev → SR) : List Ow → Ev → SR
  | [], env => .nx env
  | o :: os, env => if k < env.length then match f (env.set k (some o)) with
    | .nx e => forO k f os e
    | .ct e => forO k f os e
    | .bk e => .nx e
    | .rt r e => .rt r e
    | .ex c e => .ex c e
    | .no => .no else .no
def sForOwn (i k : Nat) (f : Ev → SR) (env : Ev) : SR := match env[i]? with
  | some (some (.l os)) => forO k f os (env.set i none)
  | _ => .no
section
variable {X : Cx} {W : WX} {S : Nat → Bool} {pos npos ypos : Pos} {x y : Str} {fs : Ev → SR}
theorem ds_forOwn {body : List Stmt} (i k : Nat) (hp : PassesOwn (model X.prog X.w) X.A X.env X.xe) (hc : X.calm = true) (hN0 : X.N.Nodup) (hb : DSs X W S body fs) (hN : X.N[i]? = some x := by rfl) (hv : Vis X.env.scope x := by first | exact Or.inl rfl | exact Or.inr (Or.inl rfl) | exact Or.inr (Or.inr rfl)) (hd : (x == ("__debug__" : Str)) = false := by decide) (hcd : (x == ("__classdict__" : Str)) = false := by decide)
    (hk : X.N[k]? = some y := by rfl) (hx : Loc X.env.scope y := by first | exact Or.inl rfl | exact Or.inr rfl) (hf : X.fn y = true ∨ X.env.scope.names.lookup y = some .local := by first | exact .inl rfl | exact .inr rfl | assumption)
    (hs : ∀ z, foldedSetIterable (.Name x npos) X.env z = pure z := by intro _; rfl) (hS : S k = true := by rfl) : DS X W S (.For (.Name y ypos) (.Name x npos) body [] pos) (sForOwn i k fs) := by
  obtain ⟨tb, pb, sb⟩ := hb
  refine ⟨_, ps_for hp hc (pi_list (pe_var hN hv hd hcd)) (pg_name hN0 hk hx hf) pb hs, fun F H σ env fp D sat h => ?_⟩
  unfold sForOwn at h
  split at h
  · rename_i os eo
    have hi : i < env.length := (List.getElem?_eq_some_iff.mp eo).1
    obtain ⟨fr, fo, a1, a2, a3, a3', a4, a5, a6⟩ := sat.en.put hi sat.nd
    obtain ⟨v, e1, e2⟩ := a5 _ eo
    cases e2 with
    | @l a vs0 _ fl m1 m2 m3 =>
      have e3 := (a6 F H [] [] (StepS.of_ext (.refl sat.fh) []) fun _ _ => by simp).1 (some (.ref a))
      rw [set_self e1] at e3
      have hl := OwnAll.len m3
      obtain ⟨na, nl⟩ := List.nodup_cons.mp a3'
      have nd0 : (fr ++ a :: fl).Nodup := by
        rw [List.nodup_append]
        exact ⟨a3, a3', fun b hb c hc' e => a4 c hc' (e ▸ hb)⟩
      refine ⟨_, e1, a, rfl, ⟨vs0, SqL.of m2⟩, ?_⟩
      refine ⟨fun j m σ' H' => m = os.length - j ∧ j ≤ os.length ∧ ∃ F' env' fp' fq, Sat X.KK F' H' σ' env' fp' ∧ H' a = some (.lst vs0) ∧ OwnAll X.KK F' H' (vs0.drop j) (os.drop j) fq ∧ (fp' ++ a :: fq).Nodup ∧ PostS X W S σ' F' H' (fp' ++ a :: fq) D (forO k fs (os.drop j) env'),
        ⟨os.length, by simp, Nat.zero_le _, F, env.set i none, fr, fl, ⟨sat.fh, e3, a3⟩, m2, m3, nd0, PostS.step h (.refl _ _) ((StepS.of_ext (.refl sat.fh) fp).subset fun b hb => (List.mem_append.mp hb).elim (a1 b) (a2 b))⟩, ?_⟩
      rintro j m σ' H' ⟨rfl, hj, F', env', fp', fq, sat', ha, ow, nd, h2⟩
      by_cases hlt : j < os.length
      · refine .inr ⟨⟨vs0, vs0[j]'(by omega), SqL.of ha, by simp⟩, fun σ2 H2 => ∃ F2 env2 fp2 fq2, Sat X.KK F2 H2 σ2 env2 fp2 ∧ H2 a = some (.lst vs0) ∧ OwnAll X.KK F2 H2 (vs0.drop (j + 1)) (os.drop (j + 1)) fq2 ∧ (fp2 ++ a :: fq2).Nodup ∧ PostS X W S σ2 F2 H2 (fp2 ++ a :: fq2) D (forO k fs (os.drop (j + 1)) env2), ?_, ?_⟩
        · rintro σ2 H2 ⟨F2, env2, fp2, fq2, c1, c2, c3, c4, c5⟩
          exact ⟨os.length - (j + 1), by omega, rfl, hlt, F2, env2, fp2, fq2, c1, c2, c3, c4, c5⟩
        · rintro x3 H3 ⟨rfl, q⟩
          have e4 : vs0[j]? = some x3 := q vs0 (SqL.of ha)
          have jl : j < vs0.length := by omega
          have ev : vs0.drop j = x3 :: vs0.drop (j + 1) := by
            rw [List.drop_eq_getElem_cons jl]
            have : vs0[j] = x3 := by rw [List.getElem?_eq_getElem jl] at e4; exact Option.some.inj e4
            rw [this]
          have ed : os.drop j = os[j] :: os.drop (j + 1) := List.drop_eq_getElem_cons hlt
          generalize os[j] = o at ed
          rw [ev, ed] at ow
          rw [ed] at h2
          cases ow with
          | @cons _ _ _ _ f1 f2 h1 h3 =>
            unfold forO at h2
            split at h2
            · rename_i hk'
              obtain ⟨n1, n2, n3⟩ := List.nodup_append.mp nd
              obtain ⟨n4, n5⟩ := List.nodup_cons.mp n2
              obtain ⟨n6, n7, n8⟩ := List.nodup_append.mp n5
              obtain ⟨fp4, sat4, sub4⟩ := sat'.put hk' h1 n6 fun b hb z => n3 b z b (List.mem_cons_of_mem _ (List.mem_append_left _ hb)) rfl
              have in4 : ∀ b ∈ fp4, b ∈ fp' ++ a :: (f1 ++ f2) := fun b hb => (sub4 b hb).elim (fun z => List.mem_append_right _ (List.mem_cons_of_mem _ (List.mem_append_left _ z))) fun z => List.mem_append_left _ z
              have na4 : a ∉ fp4 := fun z => (sub4 a z).elim (fun q => n4 (List.mem_append_left _ q)) fun q => n3 a q a List.mem_cons_self rfl
              have n24 : ∀ b ∈ f2, b ∉ fp4 := fun b hb z => (sub4 b z).elim (fun q => n8 b q b hb rfl) fun q => n3 b q b (List.mem_cons_of_mem _ (List.mem_append_right _ hb)) rfl
              show tb _ (σ'.set k (some x3)) H3
              have off4 : OffS S σ' (σ'.set k (some x3)) := .set hS _
              have h4 := PostS.step h2 off4 ((StepS.of_ext (.refl sat'.fh) (fp' ++ a :: (f1 ++ f2))).subset in4)
              have key : ∀ e, (∀ (r : SR), r = forO k fs (os.drop (j + 1)) e → PostS X W S σ' F' H3 (fp' ++ a :: (f1 ++ f2)) D r) → ∀ σ5 F5 H5 fp5, OffS S (σ'.set k (some x3)) σ5 → StepS F' H3 fp4 F5 H5 fp5 → Sat X.KK F5 H5 σ5 e fp5 → ∃ F2 env2 fp2 fq2, Sat X.KK F2 H5 σ5 env2 fp2 ∧ H5 a = some (.lst vs0) ∧ OwnAll X.KK F2 H5 (vs0.drop (j + 1)) (os.drop (j + 1)) fq2 ∧ (fp2 ++ a :: fq2).Nodup ∧ PostS X W S σ5 F2 H5 (fp2 ++ a :: fq2) D (forO k fs (os.drop (j + 1)) env2) := fun e hr σ5 F5 H5 fp5 o5 s5 sat5 => by
                have dj : ∀ b, (b = a ∨ b ∈ f2) → b ∉ fp5 := fun b hb z => by
                  rcases s5.sub b z with z1 | z1
                  · rcases hb with hb | hb
                    · exact na4 (hb ▸ z1)
                    · exact n24 b hb z1
                  · rcases hb with hb | hb
                    · rw [hb, ha] at z1; cases z1
                    · obtain ⟨_, w, e⟩ := OwnAll.there _ _ _ h3 b hb
                      rw [z1] at e; cases e
                refine ⟨F5, e, fp5, f2, sat5, s5.fr a _ ha na4, OwnAll.keep s5 _ _ _ h3 n24, ?_, ?_⟩
                · rw [List.nodup_append]
                  exact ⟨sat5.nd, List.nodup_cons.mpr ⟨fun z => n4 (List.mem_append_right _ z), n7⟩, fun b hb c hc' e => dj c ((List.mem_cons.mp hc').imp id id) (e ▸ hb)⟩
                · refine PostS.step (hr _ rfl) (off4.trans o5) ⟨s5.ff, fun b o q n => s5.fr b o q fun z => n (in4 b z), fun b o q => (s5.fn b o q).imp id (.imp (in4 b) id), fun b hb => ?_⟩
                  rcases List.mem_append.mp hb with hb | hb
                  · exact (s5.sub b hb).imp (in4 b) id
                  · rcases List.mem_cons.mp hb with rfl | hb
                    · exact .inl (List.mem_append_right _ List.mem_cons_self)
                    · exact .inl (List.mem_append_right _ (List.mem_cons_of_mem _ (List.mem_append_right _ hb)))
              refine sb F' H3 _ (env'.set k (some o)) fp4 _ sat4 ?_
              cases ef : fs (env'.set k (some o)) with
              | no => rw [ef] at h4; exact h4
              | nx env2 => rw [ef] at h2; exact key env2 fun r hr => hr ▸ h2
              | ct env2 => rw [ef] at h2; exact key env2 fun r hr => hr ▸ h2
              | bk env2 => rw [ef] at h4; exact h4
              | rt r env2 => rw [ef] at h4; exact h4
              | ex c env2 => rw [ef] at h4; exact h4
            · exact h2.elim
      · have e : j = os.length := by omega
        subst e
        rw [List.drop_length] at h2
        exact .inl ⟨⟨vs0, SqL.of ha, by omega⟩, h2 σ' F' H' fp' (.refl _ _) ((StepS.of_ext (.refl sat'.fh) _).subset fun b hb => List.mem_append_left _ hb) sat'⟩
  · exact h.elim
theorem sForOwn_of {i k : Nat} {f : Ev → SR} {env : Ev} {os : List Ow} (h : env[i]? = some (some (.l os))) : sForOwn i k f env = forO k f os (env.set i none) := by unfold sForOwn; rw [h]
end
end Mir
end
set_option Elab.async false
set_option linter.all false
set_option maxRecDepth 100000
set_option maxHeartbeats 4000000
noncomputable section
namespace Mir
open PySem PySem.Spec L2
section
variable {X : Cx} {es : List Expr} {pos : Pos}
def xLst (f : Ev → R (List D × Ev)) (env : Ev) : R (D × Ev) := (f env).bind fun p => guard (p.1.length ≤ sizeLine) (.ok (.list p.1, p.2))
@[simp] theorem xLst_eq (f : Ev → R (List D × Ev)) (env : Ev) : xLst f env = (f env).bind fun p => guard (p.1.length ≤ sizeLine) (.ok (.list p.1, p.2)) := rfl
end
end Mir
end
set_option Elab.async false
set_option linter.all false
set_option maxRecDepth 100000
set_option maxHeartbeats 4000000
noncomputable section
namespace Mir
open PySem PySem.Spec L2
section
variable {X : Cx} {W : WX} {S : Nat → Bool} {pos : Pos} {e a b : Expr} {x : Str} {npos : Pos}
end
end Mir
end
set_option Elab.async false
set_option linter.all false
set_option maxRecDepth 100000
set_option maxHeartbeats 4000000
noncomputable section
namespace Mir
open PySem PySem.Spec PyProof.Rows L2
section
variable {X : Cx} {W : WX} {o e : Expr} {apos cpos : Pos} {f g : Ev → R D}
end
end Mir
end
set_option Elab.async false
set_option linter.all false
set_option maxRecDepth 100000
set_option maxHeartbeats 4000000
noncomputable section
namespace Mir
open PySem PySem.Spec PyProof.Rows L2
section
variable {X : Cx} {W : WX}
end
end Mir
end
set_option Elab.async false
set_option linter.all false
set_option maxRecDepth 100000
set_option maxHeartbeats 4000000
noncomputable section
namespace Mir
open PySem PySem.Spec PyProof.Rows L2
/-- what an exception at hand may be tracked as -/
structure ExH (φ : Heap → Prop) (cls : Value) (d : Option Addr) (a : Addr) : Prop where
  of : ∀ (h : Heap) (oe : Obj) (vs : Array Value), h.get? a = some oe → Zc cls d oe → oe.data = .fields vs → φ h
  st : ∀ h1 h2 : Heap, φ h1 → (∀ o, h1.get? a = some o → h2.get? a = some o) → φ h2
section
variable {X : Cx} {x n : Str} {c : Value} {i : Nat} {body suite : List Stmt} {b₀ : Stmt} {np pos pos' : Pos} {tb : WX → TS} {ts : TS} {Wout : WX}
end
/-- what each class is, where it is caught: true, let out: false; else not mirrored -/
def lookE : List (Str × Bool) → Str → Option Bool
  | [], _ => none
  | p :: ps, c => if p.1 = c then some p.2 else lookE ps c
/-- the own classes of a program, where they stand -/
structure OwnC (K : PySem.W.Frag) (mg : Str → Option Value) (c : Str) (C : Addr) : Prop where
  ns : PySem.W.nsIn K mainGlobals c = some (some (.ref C))
  gC : mg c = some (.ref C)
inductive CatchT (K : PySem.W.Frag) (mg : Str → Option Value) (x : Addr) : List (Str × Bool) → Prop
  | nil : CatchT K mg x []
  | cons {c : Str} {C : Addr} {b : Bool} {l : List (Str × Bool)} : OwnC K mg c C → PySem.W.exmOne K (.ref C) (.ref x) = some b → CatchT K mg x l → CatchT K mg x ((c, b) :: l)
section
variable {X : Cx} {W : WX} {S : Nat → Bool} {x n : Str} {np pos pos' : Pos}
end
inductive TyE (K : Kw) (H : Hp) (x : V) (t : Value) : Prop
  | ty (h : TyX K.K H x t) : TyE K H x t
  | exc {a : Addr} {c : Str} {C : Addr} (hx : x = .ref a) (ht : t = .ref C) (ha : H a = some (excO K a c)) (hc : PySem.W.nsIn K.K mainGlobals c = some (some (.ref C))) (ec : ExcC K.K C) : TyE K H x t
section
variable {X : Cx}
end
/-- a class asked of each own class, and of None -/
inductive AskT (K : PySem.W.Frag) (us : List Value) : List (Str × Bool) → Prop
  | nil : AskT K us []
  | cons {c : Str} {C : Addr} {b : Bool} {l : List (Str × Bool)} : PySem.W.nsIn K mainGlobals c = some (some (.ref C)) → ExcC K C → PySem.W.kitAny K (.ref C) us = some b → AskT K us l → AskT K us ((c, b) :: l)
/-- isinstance(e, X), e an exception or None -/
def gIsE (l : List (Str × Bool)) : D → R D
  | .none => .ok (.bool false)
  | .dict [(.none, .str c)] => match lookE l c with
    | some b => .ok (.bool b)
    | none => .no
  | _ => .no
@[simp] theorem gIsE_none (l : List (Str × Bool)) : gIsE l .none = .ok (.bool false) := rfl
section
variable {X : Cx} {W : WX} {a : Expr} {pos p p2 : Pos} {T : Str} {f : Ev → R D}
end
end Mir
end
set_option Elab.async false
set_option linter.all false
set_option maxRecDepth 100000
set_option maxHeartbeats 4000000
noncomputable section
namespace Mir
open PySem PySem.Spec PyProof.Rows L2
mutual
/-- data without lists and dicts: it can't lead to what may change -/
def cleanD : D → Bool
  | .none => true
  | .bool _ => true
  | .int _ => true
  | .str _ => true
  | .list _ => false
  | .tuple ds => cleanDs ds
  | .dict _ => false
def cleanDs : List D → Bool
  | [] => true
  | d :: ds => cleanD d && cleanDs ds
end
def cleanKv : List (D × D) → Bool
  | [] => true
  | p :: ps => cleanD p.2 && cleanKv ps
mutual
def cleanO : Ow → Bool
  | .d x => cleanD x
  | .l xs => cleanOs xs
  | .m ps => cleanKv ps
  | .t xs => cleanOs xs
  | .k _ xs => cleanOs xs
  | .n _ xs => cleanOs xs
  | .o _ _ xs => cleanOs xs
def cleanOs : List Ow → Bool
  | [] => true
  | o :: os => cleanO o && cleanOs os
end
theorem cleanDs_iff : ∀ ds : List D, cleanDs ds = true ↔ ∀ d ∈ ds, cleanD d = true
  | [] => by rw [cleanDs]; simp
  | d :: ds => by rw [cleanDs, Bool.and_eq_true, cleanDs_iff ds]; simp
theorem cleanOs_iff : ∀ ds : List Ow, cleanOs ds = true ↔ ∀ d ∈ ds, cleanO d = true
  | [] => by rw [cleanOs]; simp
  | d :: ds => by rw [cleanOs, Bool.and_eq_true, cleanOs_iff ds]; simp
mutual
theorem clean_key : ∀ k : NestedKey, cleanD k.data = true
  | .none => by rw [NestedKey.data, cleanD]
  | .num _ => by rw [NestedKey.data, cleanD]
  | .text _ => by rw [NestedKey.data, cleanD]
  | .tup ks => by rw [NestedKey.data, cleanD]; exact clean_keys ks
theorem clean_keys : ∀ ks : List NestedKey, cleanDs (NestedKey.datas ks) = true
  | [] => by rw [NestedKey.datas, cleanDs]
  | k :: ks => by rw [NestedKey.datas, cleanDs, clean_key k, clean_keys ks]; rfl
end
section
variable {K : Kw} {F' F'' H' : Hp} (hT : ∀ a xs, SqT K.K F' a xs → SqT K.K F'' a xs)
include hT
mutual
theorem Dp.thaw : ∀ (d : D) (v : V), Dp K F' v d → cleanD d = true → Dp K F'' v d
  | .none, _, h, _ => by rw [dp_none h]; exact .non
  | .bool b, _, h, _ => by rw [dp_bool h]; exact .bl b
  | .int i, _, h, _ => by rw [dp_int h]; exact .int i
  | .str z, _, h, _ => by rw [dp_str h]; exact .str z
  | .list _, _, _, c => by rw [cleanD] at c; cases c
  | .dict _, _, _, c => by rw [cleanD] at c; cases c
  | .tuple ds, _, h, c => by
    rw [cleanD] at c
    cases h with
    | tup h1 h2 => exact .tup (hT _ _ h1) (DpAll.thaw ds _ h2 c)
theorem DpAll.thaw : ∀ (ds : List D) (vs : List V), DpAll K F' vs ds → cleanDs ds = true → DpAll K F'' vs ds
  | [], _, h, _ => by cases h; exact .nil
  | d :: ds, _, h, c => by
    rw [cleanDs, Bool.and_eq_true] at c
    cases h with
    | cons h1 h2 => exact .cons (Dp.thaw d _ h1 c.1) (DpAll.thaw ds _ h2 c.2)
end
theorem DpKv.thaw : ∀ (ps : List (D × D)) (kvs : List (Key × V)), DpKv K F' kvs ps → cleanKv ps = true → DpKv K F'' kvs ps
  | [], _, h, _ => by cases h; exact .nil
  | p :: ps, _, h, c => by
    rw [cleanKv, Bool.and_eq_true] at c
    cases h with
    | cons h1 h2 => exact .cons (Dp.thaw hT _ _ h1 c.1) (DpKv.thaw ps _ h2 c.2)
variable (hn : ∀ b, F' b = none → F'' b = none)
include hn
mutual
theorem OwnAt.thaw : ∀ (o : Ow) (v : V) (fp : List Addr), OwnAt K F' H' v o fp → cleanO o = true → OwnAt K F'' H' v o fp
  | .d x, v, fp, h, c => by
    rw [cleanO] at c
    cases h with
    | d q => exact .d (Dp.thaw hT x v q c)
  | .l os, v, fp, h, c => by
    rw [cleanO] at c
    cases h with
    | l h1 h2 h3 => exact .l (hn _ h1) h2 (OwnAll.thaw os _ _ h3 c)
  | .m ps, v, fp, h, c => by
    rw [cleanO] at c
    cases h with
    | m h1 h2 h3 => exact .m (hn _ h1) h2 (DpKv.thaw hT ps _ h3 c)
  | .t os, v, fp, h, c => by
    rw [cleanO] at c
    cases h with
    | t h1 h2 => exact .t (hT _ _ h1) (OwnAll.thaw os _ _ h2 c)
  | .k _ os, v, fp, h, c => by
    rw [cleanO] at c
    cases h with
    | k h1 h2 h3 => exact .k (hn _ h1) h2 (OwnAll.thaw os _ _ h3 c)
  | .n _ os, v, fp, h, c => by
    rw [cleanO] at c
    cases h with
    | n h1 h2 h3 h4 => exact .n (hn _ h1) h2 (fun p hp => ⟨Dp.thaw hT _ _ (h3 p hp).1 (clean_key _), (h3 p hp).2⟩) (OwnAll.thaw os _ _ h4 c)
  | .o _ _ os, v, fp, h, c => by
    rw [cleanO] at c
    cases h with
    | o h0 h1 h2 h3 h4 h5 => exact .o h0 (hn _ h1) (hn _ h2) h3 h4 (OwnAll.thaw os _ _ h5 c)
theorem OwnAll.thaw : ∀ (os : List Ow) (vs : List V) (fp : List Addr), OwnAll K F' H' vs os fp → cleanOs os = true → OwnAll K F'' H' vs os fp
  | [], vs, fp, h, _ => by cases h; exact .nil
  | o :: os, vs, fp, h, c => by
    rw [cleanOs, Bool.and_eq_true] at c
    cases h with
    | cons h1 h2 => exact .cons (OwnAt.thaw o _ _ h1 c.1) (OwnAll.thaw os _ _ h2 c.2)
end
end
/-- neither a tuple nor a thing that is held still -/
def notT (u : HO) : Prop := (∀ xs, u ≠ .tup xs) ∧ ∀ o w, u ≠ .frz o w
mutual
theorem OwnAt.kinds {K : Kw} {F H : Hp} : ∀ (o : Ow) (v : V) (fp : List Addr), OwnAt K F H v o fp → ∀ b ∈ fp, ∃ u, H b = some u ∧ notT u
  | .d x, v, fp, h, b, hb => by cases h; cases hb
  | .l os, v, fp, h, b, hb => by
    cases h with
    | l h1 h2 h3 =>
      rcases List.mem_cons.mp hb with e | e
      · subst e; exact ⟨_, h2, (fun _ z => nomatch z), fun _ _ z => nomatch z⟩
      · exact OwnAll.kinds os _ _ h3 b e
  | .m ps, v, fp, h, b, hb => by
    cases h with
    | m h1 h2 h3 =>
      rw [List.mem_singleton] at hb
      subst hb; exact ⟨_, h2, (fun _ z => nomatch z), fun _ _ z => nomatch z⟩
  | .t os, v, fp, h, b, hb => by
    cases h with
    | t h1 h2 => exact OwnAll.kinds os _ _ h2 b hb
  | .k _ os, v, fp, h, b, hb => by
    cases h with
    | k h1 h2 h3 =>
      rcases List.mem_cons.mp hb with e | e
      · subst e; exact ⟨_, h2, (fun _ z => nomatch z), fun _ _ z => nomatch z⟩
      · exact OwnAll.kinds os _ _ h3 b e
  | .n _ os, v, fp, h, b, hb => by
    cases h with
    | n h1 h2 h3 h4 =>
      rcases List.mem_cons.mp hb with e | e
      · subst e; exact ⟨_, h2, (fun _ z => nomatch z), fun _ _ z => nomatch z⟩
      · exact OwnAll.kinds os _ _ h4 b e
  | .o _ _ os, v, fp, h, b, hb => by
    cases h with
    | o h0 h1 h2 h3 h4 h5 =>
      rcases List.mem_cons.mp hb with e | e
      · subst e; exact ⟨_, h3, (fun _ z => nomatch z), fun _ _ z => nomatch z⟩
      · rcases List.mem_cons.mp e with e | e
        · subst e; exact ⟨_, h4, (fun _ z => nomatch z), fun _ _ z => nomatch z⟩
        · exact OwnAll.kinds os _ _ h5 b e
theorem OwnAll.kinds {K : Kw} {F H : Hp} : ∀ (o : List Ow) (v : List V) (fp : List Addr), OwnAll K F H v o fp → ∀ b ∈ fp, ∃ u, H b = some u ∧ notT u
  | [], v, fp, h, b, hb => by cases h; cases hb
  | o :: os, v, fp, h, b, hb => by
    cases h with
    | cons h1 h2 =>
      rcases List.mem_append.mp hb with e | e
      · exact OwnAt.kinds o _ _ h1 b e
      · exact OwnAll.kinds os _ _ h2 b e
end
/-- the slots behind the statement: slot i is own again, those of dead are forgotten -/
def thawL (i : Nat) (o : Ow) (dead : List Nat) : Nat → Ev → Ev
  | _, [] => []
  | n, x :: xs => (if n = i then some o else if n ∈ dead then none else x) :: thawL i o dead (n + 1) xs
/-- what may stand in the other slots -/
def okAt (i : Nat) (dead keep : List Nat) (env : Ev) (n : Nat) (x : Option Ow) : Prop := n = i ∨ n ∈ dead ∨ x = none ∨ (∃ o, x = some o ∧ cleanO o = true) ∨ (n ∈ keep ∧ ∃ d, x = some (.d d) ∧ env[n]? = some (some (.d d)))
def okThaw (i : Nat) (dead keep : List Nat) (env env' : Ev) : Prop := ∀ j x, env'[j]? = some x → okAt i dead keep env j x
theorem thaw_env {K : Kw} {F' F'' H' : Hp} (hT : ∀ a xs, SqT K.K F' a xs → SqT K.K F'' a xs) (hn : ∀ b, F' b = none → F'' b = none) {i : Nat} {o : Ow} {dead keep : List Nat} {env : Ev} {v : V} {fo : List Addr} (ho : OwnAt K F'' H' v o fo) (no : fo.Nodup) :
    ∀ {σ : L2.St} {env' : Ev} {fp : List Addr}, EnvAt K F' H' σ env' fp → fp.Nodup → (∀ b ∈ fo, b ∉ fp) → ∀ n, (∀ j x, env'[j]? = some x → okAt i dead keep env (n + j) x) → (∀ j d, n + j ∈ keep → env[n + j]? = some (some (.d d)) → j < env'.length → ∃ v, σ[j]? = some (some v) ∧ Dp K F'' v d) →
    (∀ j, n + j = i → j < env'.length → σ[j]? = some (some v)) → ∃ fp', EnvAt K F'' H' σ (thawL i o dead n env') fp' ∧ fp'.Nodup ∧ ∀ b ∈ fp', b ∈ fp ∨ (b ∈ fo ∧ n ≤ i) := by
  intro σ env' fp h
  induction h with
  | nil => intro _ _ n _ _ _; exact ⟨[], .nil, List.nodup_nil, fun b z => nomatch z⟩
  | @non x σ' env2 fps h ih =>
    intro nd dj n ok kp sl
    obtain ⟨fp', e1, e2, e3⟩ := ih nd dj (n + 1) (fun j x hx => by have := ok (j + 1) x (by simpa using hx); rwa [show n + (j + 1) = n + 1 + j by omega] at this)
      (fun j d hj hd hl => by
        obtain ⟨v, a, b⟩ := kp (j + 1) d (by rwa [show n + (j + 1) = n + 1 + j by omega]) (by rwa [show n + (j + 1) = n + 1 + j by omega]) (by simpa using hl)
        exact ⟨v, by simpa using a, b⟩)
      (fun j hj hl => by simpa using sl (j + 1) (by omega) (by simpa using hl))
    unfold thawL
    by_cases hi : n = i
    · rw [if_pos hi]
      have hs := sl 0 (by omega) (by simp)
      simp only [List.getElem?_cons_zero, Option.some.injEq] at hs
      subst hs
      refine ⟨fo ++ fp', .som ho e1, ?_, fun b hb => ?_⟩
      · rw [List.nodup_append]
        refine ⟨no, e2, fun a ha b hb e => ?_⟩
        subst e
        rcases e3 a hb with z | z
        · exact dj a ha z
        · omega
      · rcases List.mem_append.mp hb with z | z
        · exact .inr ⟨z, by omega⟩
        · rcases e3 b z with z | z
          · exact .inl z
          · omega
    · rw [if_neg hi]
      have : (if n ∈ dead then (none : Option Ow) else none) = none := by split <;> rfl
      rw [this]
      exact ⟨fp', .non e1, e2, fun b hb => (e3 b hb).imp id fun z => ⟨z.1, by omega⟩⟩
  | @som u w σ' env2 f1 fps h1 h2 ih =>
    intro nd dj n ok kp sl
    rw [List.nodup_append] at nd
    obtain ⟨n1, n2, n3⟩ := nd
    obtain ⟨fp', e1, e2, e3⟩ := ih n2 (fun b hb z => dj b hb (List.mem_append_right _ z)) (n + 1) (fun j x hx => by have := ok (j + 1) x (by simpa using hx); rwa [show n + (j + 1) = n + 1 + j by omega] at this)
      (fun j d hj hd hl => by
        obtain ⟨v, a, b⟩ := kp (j + 1) d (by rwa [show n + (j + 1) = n + 1 + j by omega]) (by rwa [show n + (j + 1) = n + 1 + j by omega]) (by simpa using hl)
        exact ⟨v, by simpa using a, b⟩)
      (fun j hj hl => by simpa using sl (j + 1) (by omega) (by simpa using hl))
    unfold thawL
    by_cases hi : n = i
    · rw [if_pos hi]
      have hs := sl 0 (by omega) (by simp)
      simp only [List.getElem?_cons_zero, Option.some.injEq] at hs
      subst hs
      refine ⟨fo ++ fp', .som ho e1, ?_, fun b hb => ?_⟩
      · rw [List.nodup_append]
        refine ⟨no, e2, fun a ha b hb e => ?_⟩
        subst e
        rcases e3 a hb with z | z
        · exact dj a ha (List.mem_append_right _ z)
        · omega
      · rcases List.mem_append.mp hb with z | z
        · exact .inr ⟨z, by omega⟩
        · rcases e3 b z with z | z
          · exact .inl (List.mem_append_right _ z)
          · omega
    · rw [if_neg hi]
      by_cases hd : n ∈ dead
      · rw [if_pos hd]
        exact ⟨fp', .non e1, e2, fun b hb => (e3 b hb).imp (List.mem_append_right _) fun z => ⟨z.1, by omega⟩⟩
      · rw [if_neg hd]
        have key : ∃ g, OwnAt K F'' H' u w g ∧ g.Nodup ∧ ∀ b ∈ g, b ∈ f1 := by
          rcases ok 0 (some w) rfl with z | z | z | ⟨o', z, c⟩ | ⟨z, d, e, ee⟩
          · omega
          · exact absurd z hd
          · cases z
          · cases z
            exact ⟨f1, OwnAt.thaw hT hn _ _ _ h1 c, n1, fun _ z => z⟩
          · cases e
            obtain ⟨v', a, b⟩ := kp 0 d z ee (by simp)
            simp only [List.getElem?_cons_zero, Option.some.injEq] at a
            subst a
            exact ⟨[], .d b, List.nodup_nil, fun b z => nomatch z⟩
        obtain ⟨g, g1, g2, g3⟩ := key
        refine ⟨g ++ fp', .som g1 e1, ?_, fun b hb => ?_⟩
        · rw [List.nodup_append]
          refine ⟨g2, e2, fun a ha b hb e => ?_⟩
          subst e
          rcases e3 a hb with z | z
          · exact n3 a (g3 a ha) a z rfl
          · exact dj a z.1 (List.mem_append_left _ (g3 a ha))
        · rcases List.mem_append.mp hb with z | z
          · exact .inl (List.mem_append_left _ (g3 b z))
          · exact (e3 b z).imp (List.mem_append_right _) fun z => ⟨z.1, by omega⟩
/-- the slots that the statement leaves alone -/
def thawS (i : Nat) (keep : List Nat) (S : Nat → Bool) (j : Nat) : Bool := !(j == i) && !(keep.contains j) && S j
def thawR (i : Nat) (o : Ow) (dead keep : List Nat) (env env' : Ev) (f : Ev → SR) : SR := @ite _ (okThaw i dead keep env env' ∧ i < env'.length) (Classical.propDecidable _) (f (thawL i o dead 0 env')) .no
def sThaw (i : Nat) (dead keep : List Nat) (f : Ev → SR) (env : Ev) : SR := match env[i]? with
  | some (some o) => match f (env.set i (some (.d (viewD o)))) with
    | .nx env' => thawR i o dead keep env env' .nx
    | .bk env' => thawR i o dead keep env env' .bk
    | .ct env' => thawR i o dead keep env env' .ct
    | r => r
  | _ => .no
section
variable {X : Cx} {W : WX} {S : Nat → Bool} {fs : Ev → SR} {st : Stmt}
theorem thaw_sm {t : TS} (i : Nat) (dead keep : List Nat) (s : SmS X W (thawS i keep S) t fs) : SmS X W S t (sThaw i dead keep fs) := by
  intro F H σ env fp D sat h
  unfold sThaw at h
  cases he : env[i]? with
  | none => rw [he] at h; exact h.elim
  | some q =>
  cases q with
  | none => rw [he] at h; exact h.elim
  | some o =>
  rw [he] at h
  simp only at h
  have hi : i < env.length := (List.getElem?_eq_some_iff.mp he).1
  obtain ⟨fr, fo, a1, a2, a3, a3', a4, a5, a6⟩ := sat.en.put hi sat.nd
  obtain ⟨v, e1, e2⟩ := a5 o he
  have nx : ∀ b ∈ fo, F b = none := fun b hb => (OwnAt.there _ _ _ e2 b hb).1
  have st0 : StepS F H fo (frzAt F H fo) H [] := ⟨frzAt_same nx, fun b o e _ => e, fun b o e => (frzAt_of e).imp id .inl, fun b z => nomatch z⟩
  obtain ⟨fp1, b1, b2, b3⟩ := (a6 (frzAt F H fo) H fo [] st0 fun b hb z => a4 b z hb).2 v _ [] (.d (OwnAt.frz nx _ _ _ e2 fun _ z => z)) List.nodup_nil (fun _ z => nomatch z)
  have es : σ.set i (some v) = σ := set_self e1
  rw [es] at b3
  have sub1 : ∀ b ∈ fp1, b ∈ fr := fun b hb => (b2 b hb).elim (fun z => nomatch z) id
  have sat1 : Sat X.KK (frzAt F H fo) H σ (env.set i (some (.d (viewD o)))) fp1 := ⟨frzAt_in sat.fh, b3, b1⟩
  have stp1 : StepS F H fp (frzAt F H fo) H fp1 := ⟨frzAt_same nx, fun b o e _ => e, fun b o e => (frzAt_of e).imp id fun z => .inl (a2 b z), fun b hb => .inl (a1 b (sub1 b hb))⟩
  have offS : ∀ {σ' : L2.St}, OffS (thawS i keep S) σ σ' → OffS S σ σ' := fun o j hj => o j (by unfold thawS; rw [hj]; simp)
  -- behind the statement
  have back : ∀ (env' : Ev) (σ' : L2.St) (F' H' : Hp) (fp' : List Addr), OffS (thawS i keep S) σ σ' → StepS (frzAt F H fo) H fp1 F' H' fp' → Sat X.KK F' H' σ' env' fp' → okThaw i dead keep env env' → i < env'.length →
      ∃ F'' fp'', StepS F H fp F'' H' fp'' ∧ Sat X.KK F'' H' σ' (thawL i o dead 0 env') fp'' := by
    intro env' σ' F' H' fp' off st2 sat2 ok hil
    let F'' : Hp := fun b => if b ∈ fo then none else F' b
    have f0 : ∀ b, b ∉ fo → F'' b = F' b := fun b hb => if_neg hb
    have f1 : ∀ b, b ∈ fo → F'' b = none := fun b hb => if_pos hb
    have frz : ∀ b ∈ fo, ∃ u, F' b = some u ∧ H b = some u ∧ H' b = some u ∧ notT u := fun b hb => by
      obtain ⟨u, k1, k2⟩ := OwnAt.kinds _ _ _ e2 b hb
      have : frzAt F H fo b = some u := (if_pos hb).trans k1
      have q := st2.ff b u this
      exact ⟨u, q, k1, sat2.fh b u q, k2⟩
    have ffs : Same F F'' := fun b u e => by
      have : b ∉ fo := fun z => by rw [nx b z] at e; cases e
      rw [f0 b this]
      exact st2.ff b u (frzAt_same nx b u e)
    have hT : ∀ a xs, SqT X.K F' a xs → SqT X.K F'' a xs := fun a xs q => by
      rcases q with (q | ⟨ob, q⟩) | q
      · refine .inl (.inl ?_)
        rw [f0 a fun z => ?_]
        · exact q
        · obtain ⟨u, k1, _, _, k2⟩ := frz a z
          rw [k1] at q; cases q
          exact k2.1 _ rfl
      · refine .inl (.inr ⟨ob, ?_⟩)
        rw [f0 a fun z => ?_]
        · exact q
        · obtain ⟨u, k1, _, _, k2⟩ := frz a z
          rw [k1] at q; cases q
          exact k2.2 _ _ rfl
      · exact .inr q
    have hn : ∀ b, F' b = none → F'' b = none := fun b e => by
      by_cases z : b ∈ fo
      · exact f1 b z
      · rw [f0 b z]; exact e
    have stF : StepS F H fr F'' H' fp' := by
      refine ⟨ffs, fun b u e n => st2.fr b u e fun z => n (sub1 b z), fun b u e => ?_, fun b hb => (st2.sub b hb).imp (sub1 b) id⟩
      have z : b ∉ fo := fun z => by rw [f1 b z] at e; cases e
      rw [f0 b z] at e
      rcases st2.fn b u e with q | q | q
      · rcases frzAt_of q with q | q
        · exact .inl q
        · exact absurd q z
      · exact .inr (.inl (sub1 b q))
      · exact .inr (.inr q)
    have ho : OwnAt X.KK F'' H' v o fo := OwnAt.keep stF _ _ _ e2 fun b hb z => a4 b hb z
    have dj : ∀ b ∈ fo, b ∉ fp' := fun b hb z => by
      obtain ⟨u, k1, _⟩ := frz b hb
      rw [(sat2.en.there b z).1] at k1; cases k1
    obtain ⟨fp'', c1, c2, c3⟩ := thaw_env (K := X.KK) hT hn (i := i) (o := o) (dead := dead) (keep := keep) (env := env) ho a3' sat2.en sat2.nd dj 0 (fun j x hx => by rw [Nat.zero_add]; exact ok j x hx)
      (fun j d hj hd hl => by
        rw [Nat.zero_add] at hj hd
        obtain ⟨u, fu, k1, k2, _⟩ := sat.en.get hd
        cases k2 with
        | d k2 =>
          have : thawS i keep S j = false := by
            unfold thawS
            rw [show keep.contains j = true from by simpa using hj]
            simp
          exact ⟨u, by rw [off j this]; exact k1, dpUp k2 ffs⟩)
      (fun j hj hl => by
        rw [Nat.zero_add] at hj
        subst hj
        have : thawS j keep S j = false := by unfold thawS; simp
        rw [off j this]; exact e1)
    refine ⟨F'', fp'', ⟨ffs, fun b u e n => st2.fr b u e fun z => n (a1 b (sub1 b z)), fun b u e => (stF.fn b u e).imp id (.imp (a1 b) id), fun b hb => ?_⟩, fun b u e => ?_, c1, c2⟩
    · rcases c3 b hb with z | z
      · exact (stF.sub b z).imp (a1 b) id
      · exact .inl (a2 b z.1)
    · have z : b ∉ fo := fun z => by rw [f1 b z] at e; cases e
      rw [f0 b z] at e
      exact sat2.fh b u e
  refine s (frzAt F H fo) H σ _ fp1 D sat1 ?_
  cases ef : fs (env.set i (some (.d (viewD o)))) with
  | no => rw [ef] at h; exact h
  | rt r env' =>
    rw [ef] at h
    exact fun u σ' F' H' fx fp' off st2 => h u σ' F' H' fx fp' (offS off) (stp1.trans st2)
  | ex c env' =>
    rw [ef] at h
    exact fun C σ' F' H' fp' m off st2 => h C σ' F' H' fp' m (offS off) (stp1.trans st2)
  | nx env' =>
    rw [ef] at h
    intro σ' F' H' fp' off st2 sat2
    have h2 : PostS X W S σ F H fp D (thawR i o dead keep env env' .nx) := h
    unfold thawR at h2
    split at h2
    · rename_i c
      obtain ⟨F'', fp'', k1, k2⟩ := back env' σ' F' H' fp' off st2 sat2 c.1 c.2
      exact h2 σ' F'' H' fp'' (offS off) k1 k2
    · exact h2.elim
  | bk env' =>
    rw [ef] at h
    intro σ' F' H' fp' off st2 sat2
    have h2 : PostS X W S σ F H fp D (thawR i o dead keep env env' .bk) := h
    unfold thawR at h2
    split at h2
    · rename_i c
      obtain ⟨F'', fp'', k1, k2⟩ := back env' σ' F' H' fp' off st2 sat2 c.1 c.2
      exact h2 σ' F'' H' fp'' (offS off) k1 k2
    · exact h2.elim
  | ct env' =>
    rw [ef] at h
    intro σ' F' H' fp' off st2 sat2
    have h2 : PostS X W S σ F H fp D (thawR i o dead keep env env' .ct) := h
    unfold thawR at h2
    split at h2
    · rename_i c
      obtain ⟨F'', fp'', k1, k2⟩ := back env' σ' F' H' fp' off st2 sat2 c.1 c.2
      exact h2 σ' F'' H' fp'' (offS off) k1 k2
    · exact h2.elim
theorem ds_thaw (i : Nat) (dead keep : List Nat) (h : DS X W (thawS i keep S) st fs) : DS X W S st (sThaw i dead keep fs) := by
  obtain ⟨t, p, s⟩ := h
  exact ⟨t, p, thaw_sm i dead keep s⟩
/-- reckoned -/
theorem sThaw_nx {i : Nat} {dead keep : List Nat} {env env' : Ev} {o : Ow} (he : env[i]? = some (some o)) (hf : fs (env.set i (some (.d (viewD o)))) = .nx env') (ok : okThaw i dead keep env env') (hi : i < env'.length) : sThaw i dead keep fs env = .nx (thawL i o dead 0 env') := by
  unfold sThaw
  rw [he]
  simp only [hf]
  unfold thawR
  exact if_pos ⟨ok, hi⟩
end
end Mir
end
set_option Elab.async false
set_option linter.all false
set_option maxRecDepth 100000
set_option maxHeartbeats 4000000
noncomputable section
namespace Mir
open PySem PySem.Spec PyProof.Rows L2
section
variable {X : Cx} {W : WX} {S : Nat → Bool} {e a b : Expr} {es : List Expr} {pos : Pos} {f g : Ev → R Ow}
theorem OwnAll.append {K : Kw} {F H : Hp} : ∀ {os os' : List Ow} {vs ws : List V} {fp fp' : List Addr}, OwnAll K F H vs os fp → OwnAll K F H ws os' fp' → OwnAll K F H (vs ++ ws) (os ++ os') (fp ++ fp')
  | [], _, _, _, _, _, h, g => by cases h; exact g
  | o :: os, _, _, _, _, _, h, g => by
    cases h with
    | cons h1 h2 =>
      rw [List.append_assoc]
      exact .cons h1 (OwnAll.append h2 g)
/-- + of two new lists with own items -/
def eAddO (f g : Ev → R Ow) (env : Ev) : R Ow := (f env).bind fun x => (g env).bind fun y => match x, y with
  | .l xs, .l ys => guard (xs.length + ys.length ≤ sizeLine) (.ok (.l (xs ++ ys)))
  | _, _ => .no
@[simp] theorem eAddO_eq (f g : Ev → R Ow) (env : Ev) : eAddO f g env = (f env).bind fun x => (g env).bind fun y => match x, y with
  | .l xs, .l ys => guard (xs.length + ys.length ≤ sizeLine) (.ok (.l (xs ++ ys)))
  | _, _ => .no := rfl
theorem de_addO (ha : DE X W a f) (hb : DE X W b g) : DE X W (.BinOp a .Add b pos) (eAddO f g) := by
  obtain ⟨ta, pa, sa⟩ := ha
  obtain ⟨tb, pb, sb⟩ := hb
  refine ⟨_, pe_op op_catL pa pb, fun F H σ env fp Q sat hp => ?_⟩
  refine sa F H σ env fp _ sat ?_
  rw [eAddO_eq] at hp
  cases ef : f env with
  | no => rw [ef] at hp; exact hp.elim
  | ex c => rw [ef] at hp; exact hp
  | ok d =>
  rw [ef, R.bind_ok] at hp
  intro v F1 H1 x1 ⟨f1, o1, n1, r1⟩
  have sat1 := sat.ext x1
  refine sb F1 H1 σ env fp _ sat1 ?_
  cases eg : g env with
  | no => rw [eg] at hp; exact hp.elim
  | ex c => rw [eg] at hp; exact fun C F' H' m e => hp C F' H' m (x1.trans e)
  | ok d' =>
  rw [eg, R.bind_ok] at hp
  intro v' F2 H2 x2 ⟨f2, o2, n2, r2⟩
  have sat2 := sat1.ext x2
  cases d with
  | l xs =>
    cases d' with
    | l ys =>
      obtain ⟨hl, h3⟩ := guard_post hp
      have o1' := o1.ext x2
      cases o1' with
      | @l a1 vs _ g1 k1 k2 k3 =>
        cases o2 with
        | @l a2 ws _ g2 m1 m2 m3 =>
          refine ⟨a1, a2, vs, ws, rfl, rfl, SqL.of k2, SqL.of m2, by rw [k3.len, m3.len]; exact hl, fun p hp => ?_⟩
          have x := Ext.own sat2.fh hp (.lst (vs ++ ws))
          have fr2 : ∀ b ∈ g2, H2 b ≠ none := fun b hb z => by
            obtain ⟨_, u, e⟩ := OwnAll.there _ _ _ m3 b hb
            rw [z] at e; cases e
          have fr1 : ∀ b ∈ g1, H2 b ≠ none := fun b hb z => by
            obtain ⟨_, u, e⟩ := OwnAll.there _ _ _ k3 b hb
            rw [z] at e; cases e
          refine h3 _ _ _ ((x1.trans x2).trans x) ⟨p :: (g1 ++ g2), .l (free_of sat2.fh hp) upd_same (OwnAll.append (OwnAll.ext k3 x) (OwnAll.ext m3 x)), ?_, fun b hb => ?_⟩
          · rw [List.nodup_cons, List.nodup_append]
            refine ⟨fun z => ?_, (List.nodup_cons.mp n1).2, (List.nodup_cons.mp n2).2, fun b hb c hc e => ?_⟩
            · rcases List.mem_append.mp z with z | z
              · exact fr1 p z hp
              · exact fr2 p z hp
            · subst e
              obtain ⟨_, u, e⟩ := OwnAt.there _ _ _ o1 b (List.mem_cons_of_mem _ hb)
              rw [r2 b (List.mem_cons_of_mem _ hc)] at e; cases e
          · rcases List.mem_cons.mp hb with z | z
            · rw [z]; exact (x1.trans x2).hh.free hp
            · rcases List.mem_append.mp z with z | z
              · exact r1 b (List.mem_cons_of_mem _ z)
              · exact x1.hh.free (r2 b (List.mem_cons_of_mem _ z))
    | _ => exact hp.elim
  | _ => cases d' <;> exact hp.elim
/-- a tuple with own things in it -/
def eTupO (f : Ev → R (List Ow)) (env : Ev) : R Ow := (f env).bind fun os => guard (os.length ≤ sizeLine) (.ok (.t os))
@[simp] theorem eTupO_eq (f : Ev → R (List Ow)) (env : Ev) : eTupO f env = (f env).bind fun os => guard (os.length ≤ sizeLine) (.ok (.t os)) := rfl
def sMove (i j : Nat) (env : Ev) : SR := match env[j]? with
  | some (some o) => if i < env.length ∧ i ≠ j then .nx ((env.set j none).set i (some o)) else .no
  | _ => .no
theorem sMove_of {i j : Nat} {env : Ev} {o : Ow} (h : env[j]? = some (some o)) (hi : i < env.length) (ne : i ≠ j) : sMove i j env = .nx ((env.set j none).set i (some o)) := by
  unfold sMove
  rw [h]
  exact if_pos ⟨hi, ne⟩
theorem ds_move {x y : Str} {p1 p2 : Pos} (i j : Nat) (hN : X.N.Nodup) (hi : X.N[i]? = some x := by rfl) (hx : Loc X.env.scope x := by first | exact Or.inl rfl | exact Or.inr rfl) (hj : X.N[j]? = some y := by rfl) (hv : Vis X.env.scope y := by first | exact Or.inl rfl | exact Or.inr (Or.inl rfl) | exact Or.inr (Or.inr rfl)) (hd : (y == ("__debug__" : Str)) = false := by decide) (hcd : (y == ("__classdict__" : Str)) = false := by decide)
    (hs : swapsWith (.Name y p1) (some (.Name x p2)) pos.line X.env = pure false := by rfl) (hf : X.fn x = true ∨ X.env.scope.names.lookup x = some .local := by first | exact .inl rfl | exact .inr rfl | assumption) (hS : S i = true := by rfl) : DS X W S (.Assign [.Name x p2] (.Name y p1) pos) (sMove i j) := by
  refine ⟨_, ps_set hN hi hx (pe_var hj hv hd hcd) hs hf, fun F H σ env fp D sat h => ?_⟩
  unfold sMove at h
  cases he : env[j]? with
  | none => rw [he] at h; exact h.elim
  | some q =>
  cases q with
  | none => rw [he] at h; exact h.elim
  | some o =>
  rw [he] at h
  simp only at h
  split at h
  · rename_i c
    have hj' : j < env.length := (List.getElem?_eq_some_iff.mp he).1
    obtain ⟨fr, fo, a1, a2, a3, a3', a4, a5, a6⟩ := sat.en.put hj' sat.nd
    obtain ⟨v, e1, e2⟩ := a5 o he
    have e3 := (a6 F H [] [] (StepS.of_ext (.refl sat.fh) []) fun _ _ => by simp).1 (some v)
    rw [set_self e1] at e3
    have hi' : i < (env.set j none).length := by rw [List.length_set]; exact c.1
    obtain ⟨fr2, fo2, b1, b2, b3, b3', b4, b5, b6⟩ := e3.put hi' a3
    obtain ⟨fp', d1, d2, d3⟩ := (b6 F H [] [] (StepS.of_ext (.refl sat.fh) []) fun _ _ => by simp).2 v o fo e2 a3' (fun b hb z => a4 b hb (b1 b z))
    refine ⟨v, e1, h _ F H fp' (.set hS _) ⟨Same.refl _, fun b u e _ => e, fun b u e => .inl e, fun b hb => ?_⟩ ⟨sat.fh, d3, d1⟩⟩
    rcases d2 b hb with z | z
    · exact .inl (a2 b z)
    · exact .inl (a1 b (b1 b z))
  · exact h.elim
end
end Mir
end
set_option Elab.async false
set_option linter.all false
set_option maxRecDepth 100000
set_option maxHeartbeats 4000000
namespace Mir
open PySem PySem.Spec L2

inductive Tr where
  | mk (nm : Str) (mk : Int) (bs : List Tr)
mutual
def encT : Tr → D
  | .mk nm k bs => .tuple [.str nm, .int k, .tuple (encTs bs)]
def encTs : List Tr → List D
  | [] => []
  | b :: bs => encT b :: encTs bs
end
mutual
def sizeT : Tr → Nat
  | .mk _ _ bs => 1 + sizeTs bs
def sizeTs : List Tr → Nat
  | [] => 0
  | b :: bs => sizeT b + sizeTs bs
end
mutual
def levT : Tr → Nat
  | .mk _ _ bs => levTs bs + 1
def levTs : List Tr → Nat
  | [] => 0
  | b :: bs => max (levT b) (levTs bs)
end
mutual
def plT : Tr → List (List Nat)
  | .mk _ _ bs => [] :: plTs 0 bs
def plTs : Nat → List Tr → List (List Nat)
  | _, [] => []
  | o, b :: bs => (plT b).map (fun p => o :: p) ++ plTs (o + 1) bs
end
theorem encTs_map : ∀ bs : List Tr, encTs bs = bs.map encT
  | [] => by rw [encTs]; rfl
  | b :: bs => by rw [encTs, encTs_map bs]; rfl
theorem encT_mk (nm : Str) (k : Int) (bs : List Tr) : encT (.mk nm k bs) = .tuple [.str nm, .int k, .tuple (bs.map encT)] := by rw [encT, encTs_map]
theorem levTs_le {n : Nat} : ∀ {bs : List Tr}, levTs bs ≤ n → ∀ b ∈ bs, levT b ≤ n
  | [], _, b, h => by simp at h
  | c :: bs, h, b, hb => by
    rw [levTs] at h
    rcases List.mem_cons.mp hb with e | e
    · subst e; omega
    · exact levTs_le (by omega) b e

/-- the forests that hang below the first rows, and all places that they make -/
def pz : List (List Nat) → List Nat → List (List Tr) → List (List Nat)
  | p :: ps, l :: ls, b :: bs => ([] :: plTs l b).map (fun q => p ++ q) ++ pz ps ls bs
  | _, _, _ => []
structure TRow where
  nm : Str
  mar : Int
  up : Nat
theorem rangeD_at {lo : Int} {n i : Nat} {d : D} (h : (rangeD lo n)[i]? = some d) : i < n ∧ d = .int (lo + (i : Nat)) := by
  have hl : i < n := by have := (List.getElem?_eq_some_iff.mp h).1; simpa [rangeD] using this
  refine ⟨hl, ?_⟩
  unfold rangeD at h
  rw [List.getElem?_map, List.getElem?_range hl] at h
  exact (Option.some.inj h).symm
end Mir
set_option Elab.async false
set_option linter.all false
set_option maxRecDepth 100000
set_option maxHeartbeats 4000000
namespace Mir
open PySem PySem.Spec L2

abbrev zs (p : List Nat) : List Int := p.map fun k : Nat => (k : Int)

end Mir
set_option Elab.async false
set_option linter.all false
set_option maxRecDepth 100000
set_option maxHeartbeats 4000000
namespace Mir
open PySem PySem.Spec L2

theorem map_at {α β : Type} {f : α → β} {xs : List α} {i : Nat} {y : β} (h : (xs.map f)[i]? = some y) : ∃ x, xs[i]? = some x ∧ y = f x := by
  rw [List.getElem?_map] at h
  cases e : xs[i]? with
  | none => rw [e] at h; simp at h
  | some x => rw [e] at h; simp at h; exact ⟨x, rfl, h.symm⟩
theorem unDs_of {α : Type} (f : α → D) (xs : List α) : shD (.l (xs.map fun x => Ow.d (f x))) = .ok (.list (xs.map f)) := by
  have : (xs.map fun x => Ow.d (f x)) = (xs.map f).map Ow.d := by rw [List.map_map]; rfl
  rw [this, shD_l]
theorem viewAll_of {α : Type} (f : α → D) (xs : List α) : viewAll (xs.map fun x => Ow.d (f x)) = xs.map f := by
  rw [viewAll_map, List.map_map]
  rfl
theorem viewD_of {α : Type} (f : α → D) (xs : List α) : viewD (.l (xs.map fun x => Ow.d (f x))) = .list (xs.map f) := by
  rw [viewD_l, viewAll_of]
theorem str_len (z : Str) : z.length = z.cps.toList.length := by first | rfl | simp [Str.length]
theorem gMul_small {i j : Int} (h1 : i.natAbs < 2 ^ 250) (h2 : j.natAbs < 2 ^ 250) : gMul (.int i) (.int j) = some (.int (i * j)) := by
  refine gMul_int ?_
  have : ∀ n : Nat, n < 2 ^ 250 → n.log2 < 250 := fun n h => by
    by_cases e : n = 0
    · subst e; decide
    · exact (Nat.log2_lt e).mpr h
  unfold CMulW
  have a := this _ h1
  have b := this _ h2
  omega
theorem gDiv_small {i j : Int} (h1 : 0 < j) (h2 : j.natAbs < 2 ^ 250) : gDiv (.int i) (.int j) = some (.int (i / j)) := by
  refine gDiv_int ⟨h1, ?_⟩
  have := (Nat.log2_lt (n := j.natAbs) (k := 250) (by omega)).mpr h2
  omega
theorem gPow10 (k : Nat) (h : k ≤ 1000) : gPow (.int 10) (.int k) = some (.int (10 ^ k)) := by
  rw [gPow_int ⟨by omega, by omega, by decide⟩]
  simp
theorem cutL_take {α : Type} (xs : List α) (k : Nat) : cutL xs none (some (k : Int)) = xs.take k := by
  unfold cutL
  rw [HT.sIx_none, HT.sIx_nat, List.drop_zero, Nat.sub_zero]
  by_cases h : k ≤ xs.length
  · rw [Nat.min_eq_left h]
  · rw [Nat.min_eq_right (by omega), List.take_of_length_le (Nat.le_refl _), List.take_of_length_le (by omega)]
theorem cutL_drop {α : Type} (xs : List α) (k : Nat) : cutL xs (some (k : Int)) none = xs.drop k := by
  unfold cutL
  rw [HT.sIx_none, HT.sIx_nat]
  by_cases h : k ≤ xs.length
  · rw [Nat.min_eq_left h, List.take_of_length_le (by rw [List.length_drop]; exact Nat.le_refl _)]
  · rw [Nat.min_eq_right (by omega), List.drop_of_length_le (by omega), List.drop_of_length_le (by omega)]
    simp
theorem canAll_of : ∀ ds : List D, (∀ d ∈ ds, d.canLay0 = true) → PyData.canLayAll0 ds = true
  | [], _ => by simp [PyData.canLayAll0]
  | d :: ds, h => by
    rw [PyData.canLayAll0, h d List.mem_cons_self, canAll_of ds fun d hd => h d (List.mem_cons_of_mem _ hd)]
    rfl
theorem depthAll_of {n : Nat} : ∀ ds : List D, (∀ d ∈ ds, d.depth ≤ n) → PyData.depthAll ds ≤ n
  | [], _ => by simp [PyData.depthAll]
  | d :: ds, h => by
    rw [PyData.depthAll]
    have := h d List.mem_cons_self
    have := depthAll_of ds fun d hd => h d (List.mem_cons_of_mem _ hd)
    omega
/-- data that == can be asked of -/
def Nice (d : D) : Prop := d.canLay0 = true ∧ d.depth ≤ 130
theorem gEq_nice {d e : D} (h : Nice d) (g : Nice e) : gEq d e = some (.bool (PyData.eqv d e)) := by
  have z : eqOk d e = true := by unfold eqOk; simp [h.1, h.2, g.1]
  unfold gEq; rw [if_pos (by rw [z, Bool.or_true])]
theorem gNe_nice {d e : D} (h : Nice d) (g : Nice e) : gNe d e = some (.bool (!PyData.eqv d e)) := by
  have z : eqOk d e = true := by unfold eqOk; simp [h.1, h.2, g.1]
  unfold gNe; rw [if_pos (by rw [z, Bool.or_true])]
theorem eqv_self {d : D} (h : Nice d) : PyData.eqv d d = true := SeqAt.eqv_refl d h.1
theorem gEq_self {d : D} (h : Nice d) : gEq d d = some (.bool true) := by rw [gEq_nice h h, eqv_self h]
theorem gNe_self {d : D} (h : Nice d) : gNe d d = some (.bool false) := by rw [gNe_nice h h, eqv_self h]; rfl
abbrev abc : Str := "abcdefghijklmnopqrstuvwxyz"
end Mir
set_option Elab.async false
set_option linter.all false
set_option maxRecDepth 100000
set_option maxHeartbeats 4000000
namespace Mir
open PySem PySem.Spec L2

def tx (l : List Nat) : Str := ⟨l.toArray⟩
@[simp] theorem tx_cps (l : List Nat) : (tx l).cps.toList = l := by simp [tx]
@[simp] theorem tx_len (l : List Nat) : (tx l).length = l.length := by rw [str_len, tx_cps]
theorem tx_of (z : Str) : z = tx z.cps.toList := by
  cases z with
  | mk a => simp [tx]
theorem tx_app (a b : List Nat) : tx a ++ tx b = tx (a ++ b) := by
  show (⟨(tx a).cps ++ (tx b).cps⟩ : Str) = _
  simp [tx]
theorem tx_inj {a b : List Nat} (h : tx a = tx b) : a = b := by
  have := congrArg (fun z : Str => z.cps.toList) h
  simpa using this
theorem gIx_tx {l : List Nat} {i c : Nat} (h : l[i]? = some c) (hl : l.length ≤ 16777216) : gIx (.str (tx l)) (.int (i : Nat)) = some (.str (tx [c])) := by
  show (if (tx l).length ≤ sizeLine then (atI (tx l).cps.toList (i : Int)).map fun c => PyData.str ⟨#[c]⟩ else none) = _
  rw [tx_len, tx_cps, if_pos (by rw [sizeLine_eq]; exact hl), atI_natD h]
  rfl
theorem atI_last {α : Type} {xs : List α} {x : α} : atI (xs ++ [x]) (-1) = some x := by
  unfold atI ixN
  rw [if_neg (by decide)]
  have : -((xs ++ [x]).length : Int) ≤ -1 := by rw [List.length_append, List.length_singleton]; omega
  rw [if_pos this]
  have e : (-1 + ((xs ++ [x]).length : Int)).toNat = xs.length := by rw [List.length_append, List.length_singleton]; omega
  show (xs ++ [x])[(-1 + ((xs ++ [x]).length : Int)).toNat]? = _
  rw [e, List.getElem?_append_right (Nat.le_refl _)]
  simp
theorem gAdd_tx {a b : List Nat} (h : a.length + b.length ≤ 16777216) : gAdd (.str (tx a)) (.str (tx b)) = some (.d (.str (tx (a ++ b)))) := by
  rw [gAdd_str (by rw [tx_len, tx_len, sizeLine_eq]; exact h), tx_app]
def isL (c : Nat) : Bool := decide (97 ≤ c) && decide (c ≤ 122)
theorem abc_is : abc.cps.toList = (List.range 26).map (fun k => 97 + k) := by decide +kernel
theorem empty_is : (Str.ofString "") = tx [] := by rw [tx_of (Str.ofString "")]; congr 1

end Mir
set_option Elab.async false
set_option linter.all false
set_option maxRecDepth 100000
set_option maxHeartbeats 4000000
namespace Mir
open PySem PySem.Spec L2
theorem abc_ix {k : Nat} (hk : k < 26) : gIx (.str abc) (.int (k : Int)) = some (.str (tx [97 + k])) := by
  rw [tx_of abc, abc_is]
  refine gIx_tx ?_ (by simp)
  rw [List.getElem?_map, List.getElem?_range hk]
  rfl
theorem strOk_tx {l : List Nat} (h : ∀ c ∈ l, c < 1000) : PyData.strOk (tx l) = true := by
  unfold PyData.strOk
  simp only [tx, List.all_toArray, List.all_eq_true, decide_eq_true_eq]
  intro c hc
  have := h c hc
  omega
theorem isL_small {c : Nat} (h : isL c = true) : c < 1000 := by
  unfold isL at h
  simp only [Bool.and_eq_true, decide_eq_true_eq] at h
  omega
end Mir
set_option Elab.async false
set_option linter.all false
set_option maxRecDepth 100000
set_option maxHeartbeats 4000000
namespace Mir
open PySem PySem.Spec L2

inductive Trm where
  | call (m b : Int)
  | put (nm : Str) (kp : Bool) (ad : Int) (ps : List Trm)
mutual
def encM : Trm → D
  | .call m b => .tuple [.str "call", .int m, .int b]
  | .put nm kp ad ps => .tuple [.str "put", .str nm, .bool kp, .int ad, .tuple (encMs ps)]
def encMs : List Trm → List D
  | [] => []
  | p :: ps => encM p :: encMs ps
end
mutual
def sizeM : Trm → Nat
  | .call _ _ => 1
  | .put _ _ _ ps => 1 + sizeMs ps
def sizeMs : List Trm → Nat
  | [] => 0
  | p :: ps => sizeM p + sizeMs ps
end
mutual
def levM : Trm → Nat
  | .call _ _ => 1
  | .put _ _ _ ps => levMs ps + 1
def levMs : List Trm → Nat
  | [] => 0
  | p :: ps => max (levM p) (levMs ps)
end
mutual
def callsM : Trm → List (Int × Int)
  | .call m b => [(m, b)]
  | .put _ _ _ ps => callsMs ps
def callsMs : List Trm → List (Int × Int)
  | [] => []
  | p :: ps => callsM p ++ callsMs ps
end
mutual
def okM : Trm → Prop
  | .call _ _ => True
  | .put nm _ _ ps => PyData.strOk nm = true ∧ ps.length ≤ 1000 ∧ okMs ps
def okMs : List Trm → Prop
  | [] => True
  | p :: ps => okM p ∧ okMs ps
end
theorem encMs_map : ∀ ps : List Trm, encMs ps = ps.map encM
  | [] => by rw [encMs]; rfl
  | p :: ps => by rw [encMs, encMs_map ps]; rfl
theorem callsMs_flat : ∀ ps : List Trm, callsMs ps = (ps.map callsM).flatten
  | [] => by rw [callsMs]; rfl
  | p :: ps => by rw [callsMs, callsMs_flat ps]; rfl
theorem okMs_iff : ∀ ps : List Trm, okMs ps ↔ ∀ p ∈ ps, okM p
  | [] => by simp [okMs]
  | p :: ps => by rw [okMs, okMs_iff ps]; simp
theorem encM_call (m b : Int) : encM (.call m b) = .tuple [.str "call", .int m, .int b] := by rw [encM]
theorem encM_put (nm : Str) (kp : Bool) (ad : Int) (ps : List Trm) : encM (.put nm kp ad ps) = .tuple [.str "put", .str nm, .bool kp, .int ad, .tuple (ps.map encM)] := by rw [encM, encMs_map]
theorem levMs_le {n : Nat} : ∀ {ps : List Trm}, levMs ps ≤ n → ∀ p ∈ ps, levM p ≤ n
  | [], _, b, h => by simp at h
  | c :: ps, h, b, hb => by
    rw [levMs] at h
    rcases List.mem_cons.mp hb with e | e
    · subst e; omega
    · exact levMs_le (by omega) b e
mutual
theorem can_encM : ∀ t : Trm, okM t → (encM t).canLay0 = true
  | .call m b, _ => by
    rw [encM, PyData.canLay0]
    have : PyData.strOk "call" = true := by decide +kernel
    simp [PyData.canLayAll0, PyData.canLay0, this]
  | .put nm kp ad ps, h => by
    rw [okM] at h
    rw [encM, PyData.canLay0]
    have : PyData.strOk "put" = true := by decide +kernel
    simp [PyData.canLayAll0, PyData.canLay0, this, h.1, can_encMs ps h.2.2]
theorem can_encMs : ∀ ps : List Trm, okMs ps → PyData.canLayAll0 (encMs ps) = true
  | [], _ => by simp [encMs, PyData.canLayAll0]
  | p :: ps, h => by
    rw [okMs] at h
    rw [encMs, PyData.canLayAll0, can_encM p h.1, can_encMs ps h.2]
    rfl
end
mutual
theorem depth_encM : ∀ t : Trm, (encM t).depth ≤ 2 * levM t
  | .call m b => by rw [encM, levM]; simp [PyData.depth, PyData.depthAll]
  | .put nm kp ad ps => by
    rw [encM, levM]
    have := depth_encMs ps
    simp only [PyData.depth, PyData.depthAll]
    omega
theorem depth_encMs : ∀ ps : List Trm, PyData.depthAll (encMs ps) ≤ 2 * levMs ps
  | [] => by simp [encMs, PyData.depthAll]
  | p :: ps => by
    rw [encMs, PyData.depthAll, levMs]
    have := depth_encM p
    have := depth_encMs ps
    omega
end
theorem str_eqv (a b : Str) : PyData.eqv (.str a) (.str b) = (a == b) := rfl
theorem gEq_strs (a b : String) : gEq (.str (Str.ofString a)) (.str (Str.ofString b)) = some (.bool (PyData.eqv (.str (Str.ofString a)) (.str (Str.ofString b)))) := rfl
@[simp] theorem gEq_cc : gEq (.str (Str.ofString "call")) (.str (Str.ofString "call")) = some (.bool true) := by
  have h : (Str.ofString "call" == Str.ofString "call") = true := by decide +kernel
  rw [gEq_strs, str_eqv, h]
@[simp] theorem gEq_pc : gEq (.str (Str.ofString "put")) (.str (Str.ofString "call")) = some (.bool false) := by
  have h : (Str.ofString "put" == Str.ofString "call") = false := by decide +kernel
  rw [gEq_strs, str_eqv, h]
@[simp] theorem gEq_cp : gEq (.str (Str.ofString "call")) (.str (Str.ofString "put")) = some (.bool false) := by
  have h : (Str.ofString "call" == Str.ofString "put") = false := by decide +kernel
  rw [gEq_strs, str_eqv, h]
@[simp] theorem gEq_pp : gEq (.str (Str.ofString "put")) (.str (Str.ofString "put")) = some (.bool true) := by
  have h : (Str.ofString "put" == Str.ofString "put") = true := by decide +kernel
  rw [gEq_strs, str_eqv, h]
theorem lcR_map {α : Type} {g : D → Ev → Option Ev} {c : Ev → R Bool} {e : Ev → R Ow} {env : Ev} (enc : α → D) (out : α → Ow) : ∀ xs : List α, (∀ a ∈ xs, ∃ env1, g (enc a) env = some env1 ∧ c env1 = .ok true ∧ e env1 = .ok (out a)) → lcR g c e env (xs.map enc) = .ok (xs.map out)
  | [], _ => rfl
  | a :: xs, q => by
    obtain ⟨env1, q1, q2, q3⟩ := q a List.mem_cons_self
    rw [List.map_cons]
    unfold lcR
    rw [q1]
    simp only [q2, q3, noEx_ok, R.bind_ok, if_true]
    rw [lcR_map enc out xs fun d hd => q d (List.mem_cons_of_mem _ hd)]
    rfl
theorem forL_map {α : Type} {g : D → Ev → Option Ev} {f : Ev → SR} (enc : α → D) (xs : List α) (I : Nat → Ev → Prop) (step : ∀ i a env, xs[i]? = some a → I i env → ∃ env1, g (enc a) env = some env1 ∧ ∃ env2, (f env1 = .nx env2 ∨ f env1 = .ct env2) ∧ I (i + 1) env2) (env : Ev) (h : I 0 env) : ∃ env', forL g f (xs.map enc) env = .nx env' ∧ I xs.length env' := by
  have := forL_ind (g := g) (f := f) (xs.map enc) I (fun i d env hd hi => by
    obtain ⟨a, ha, rfl⟩ := map_at hd
    exact step i a env ha hi) env h
  rwa [List.length_map] at this
noncomputable section
def encC (c : Int × Int) : D := .tuple [.int c.1, .int c.2]
abbrev encCs (cs : List (Int × Int)) : Ow := .l (cs.map fun c => .d (encC c))
end
end Mir
set_option Elab.async false
set_option linter.all false
set_option maxRecDepth 100000
set_option maxHeartbeats 4000000
namespace Mir
open PySem PySem.Spec L2

def dkO (dk : List Int) : Ow := .l ((dk.map PyData.int).map Ow.d)
abbrev dkD (dk : List Int) : D := .list (dk.map PyData.int)
theorem viewD_dk (dk : List Int) : viewD (dkO dk) = dkD dk := by unfold dkO; rw [viewD_l, viewAll_mapd]
theorem shD_dk (dk : List Int) : shD (dkO dk) = .ok (dkD dk) := shD_l _
/-- what a deck's def tells: r, and the deck behind it -/
abbrev tells (r : D) (dk : List Int) : R Ow := .ok (.d (.tuple [r, dkD dk]))
theorem xCallK_dk {m : List D → R Ow} {i : Nat} {fa : Ev → R (List D × Ev)} {env env1 : Ev} {ds : List D} {dk0 dk dk' : List Int} {r : D} (h0 : env[i]? = some (some (dkO dk0))) (h1 : fa env = .ok (ds, env1)) (h2 : env1[i]? = some (some (dkO dk))) (h3 : m (dkD dk :: ds) = tells r dk') :
    xCallK m i fa env = .ok (r, env1.set i (some (dkO dk'))) := xCallK_of h0 h1 h2 h3
theorem finK_dk (r : D) (dk : List Int) (env : Ev) : finK (.rt (.d r) (some (dkO dk) :: env)) = tells r dk := finK_rt env r _
theorem finK_step {f g : Ev → SR} {env env1 : Ev} {o : R Ow} (h1 : f env = .nx env1) (h2 : finK (g env1) = o) : finK (sSeq f g env) = o := by
  rw [sSeq_eq, h1]
  exact h2
theorem sXSet_of {i : Nat} {f : Ev → R (D × Ev)} {env env1 : Ev} {d : D} (h : f env = .ok (d, env1)) (hi : i < env1.length) : sXSet i f env = .nx (env1.set i (some (.d d))) := by
  rw [sXSet_eq, h]
  exact if_pos hi
theorem nice_ints' (dk : List Int) : Nice (dkD dk) := by
  constructor
  · rw [PyData.canLay0]
    exact canAll_of _ fun d hd => by
      obtain ⟨k, _, rfl⟩ := List.mem_map.mp hd
      rfl
  · rw [PyData.depth]
    have := depthAll_of (n := 0) (dk.map PyData.int) fun d hd => by
      obtain ⟨k, _, rfl⟩ := List.mem_map.mp hd
      simp [PyData.depth]
    omega
theorem gEq_dk_nil (dk : List Int) : gEq (dkD dk) (.list []) = some (.bool dk.isEmpty) := by
  have z := gEq_nice (nice_ints' dk) (nice_ints' [])
  rw [show dkD [] = .list [] from rfl] at z
  rw [z]
  cases dk with
  | nil => exact congrArg (fun b => some (PyData.bool b)) (eqv_self (nice_ints' []))
  | cons d ds => simp [PyData.eqv, PyData.eqvAll]
noncomputable section
abbrev bDraw : Ev → SR := (sSeq (sIf (eB (eBin gEq (eM (eVarO 0) viewD) (eM (eLst aNil) viewD)) asB)
    (sRet (eM (eC (.int 0)) Ow.d))
    sSkip)
    (sXRet (xBin gMod (xPop 0) (xP (eVar 1)))))
theorem draw_fin (dk : List Int) (most : Int) (h : 0 < most) : ∃ r dk', 0 ≤ r ∧ r < most ∧ finK (bDraw (some (dkO dk) :: envOf 0 [.int most])) = tells (.int r) dk' := by
  have eq := gEq_dk_nil dk
  have vw := viewD_dk dk
  have nl : viewD (.l []) = .list [] := by simp
  rcases List.eq_nil_or_concat dk with e | ⟨p, x, e⟩
  · subst e
    refine ⟨0, [], by omega, h, ?_⟩
    rw [← finK_dk (.int 0) [] [some (.d (.int most))]]
    have e1 : bDraw (some (dkO []) :: envOf 0 [.int most]) = .rt (.d (.int 0)) [some (dkO []), some (.d (.int most))] := by
      simp [vw, nl, eq]
    rw [e1]
  · rw [List.concat_eq_append] at e
    subst e
    have md : gMod (.int x) (.int most) = some (.int (x % most)) := gMod_int h
    refine ⟨x % most, p, Int.emod_nonneg _ (Int.ne_of_gt h), Int.emod_lt_of_pos _ h, ?_⟩
    rw [← finK_dk (.int (x % most)) p [some (.d (.int most))]]
    have pop : xPop 0 [some (dkO (p ++ [x])), some (.d (.int most))] = .ok (.int x, [some (dkO p), some (.d (.int most))]) := by
      refine xPop_of (dk := p.map PyData.int) (d := .int x) ?_
      unfold dkO
      rw [List.map_append]
      rfl
    have emp : (p ++ [x]).isEmpty = false := by simp
    rw [emp] at eq
    have e1 : bDraw (some (dkO (p ++ [x])) :: envOf 0 [.int most]) = .rt (.d (.int (x % most))) [some (dkO p), some (.d (.int most))] := by
      simp [vw, nl, eq, pop, md]
    rw [e1]
abbrev bName : Ev → SR := (sSeq (sSet 2 (eM (eC (.str "abcdefghijklmnopqrstuvwxyz")) Ow.d))
    (sSeq (sSet 3 (eM (eBin gMod (eBin gDiv (eVar 0) (eC (.int 64))) (eC (.int 26))) Ow.d))
    (sSeq (sIf (eB (eBin gEq (eBin gMod (eBin gDiv (eVar 0) (eC (.int 1664))) (eC (.int 3))) (eC (.int 2))) asB)
    (sRet (eM (eBin gMulS (eBin gIx (eVar 2) (eBin gMod (eM (eBinO gAdd (eVar 3) (eBin gDiv (eVar 1) (eC (.int 8)))) viewD) (eC (.int 26)))) (eM (eBinO gAdd (eC (.int 1)) (eBin gMod (eVar 1) (eC (.int 8)))) viewD)) Ow.d))
    sSkip)
    (sSeq (sSet 4 (eM (eM (eBinO gAdd (eC (.int 1)) (eBin gMod (eVar 0) (eC (.int 8)))) viewD) Ow.d))
    (sSeq (sSet 5 (eM (eBin gMod (eBin gDiv (eVar 0) (eC (.int 8))) (eVar 4)) Ow.d))
    (sSeq (sSet 6 (eM (eC (.str "")) Ow.d))
    (sSeq (sFor (eB (aCons (eVar 4) aNil) rg1) (gtName 7)
    (sSeq (sSet 8 (eM (eBin gMul (eBin gMod (eBin gDiv (eVar 0) (eC (.int 1664))) (eC (.int 3))) (eVar 7)) Ow.d))
    (sSeq (sIf (eB (eBin gEq (eVar 7) (eVar 5)) asB)
    (sSet 8 (eM (eM (eBinO gAdd (eVar 8) (eVar 1)) viewD) Ow.d))
    sSkip)
    (sSet 6 (eM (eM (eBinO gAdd (eVar 6) (eBin gIx (eVar 2) (eBin gMod (eM (eBinO gAdd (eVar 3) (eVar 8)) viewD) (eC (.int 26))))) viewD) Ow.d)))))
    (sRet (eM (eVar 6) Ow.d)))))))))
theorem repS_one (c n : Nat) : repS (tx [c]) n = tx (List.replicate n c) := by
  unfold repS
  rw [tx_cps]
  show _ = (⟨(List.replicate n c).toArray⟩ : Str)
  congr 1
  simp
def nameL (code k : Int) : List Nat :=
  if code / 1664 % 3 = 2 then List.replicate (1 + k % 8).toNat (97 + ((code / 64 % 26 + k / 8) % 26).toNat)
  else (List.range (1 + code % 8).toNat).map fun j : Nat => 97 + ((code / 64 % 26 + (code / 1664 % 3 * (j : Int) + if (j : Int) = code / 8 % (1 + code % 8) then k else 0)) % 26).toNat
theorem name_eq (code k : Int) (c0 : 0 ≤ code) (c1 : code < 10000000) (k0 : 0 ≤ k) (k1 : k < 1000) : finR (bName (envOf 7 [.int code, .int k])) = .ok (.d (.str (tx (nameL code k)))) ∧ (∀ c ∈ nameL code k, isL c = true) := by
  unfold nameL
  have d64 : gDiv (.int code) (.int 64) = some (.int (code / 64)) := gDiv_small (by decide) (by decide)
  have m26 : gMod (.int (code / 64)) (.int 26) = some (.int (code / 64 % 26)) := gMod_int (by decide)
  have d16 : gDiv (.int code) (.int 1664) = some (.int (code / 1664)) := gDiv_small (by decide) (by decide)
  have m3 : gMod (.int (code / 1664)) (.int 3) = some (.int (code / 1664 % 3)) := gMod_int (by decide)
  have d8 : gDiv (.int code) (.int 8) = some (.int (code / 8)) := gDiv_small (by decide) (by decide)
  have m8 : gMod (.int code) (.int 8) = some (.int (code % 8)) := gMod_int (by decide)
  have kd8 : gDiv (.int k) (.int 8) = some (.int (k / 8)) := gDiv_small (by decide) (by decide)
  have km8 : gMod (.int k) (.int 8) = some (.int (k % 8)) := gMod_int (by decide)
  obtain ⟨F, hF⟩ : ∃ F : Int, F = code / 64 % 26 := ⟨_, rfl⟩
  have f0 : 0 ≤ F ∧ F < 26 := by omega
  have letter : ∀ i : Int, 0 ≤ i → isL (97 + (i % 26).toNat) = true ∧ gMod (.int i) (.int 26) = some (.int (i % 26)) ∧ gIx (.str abc) (.int (i % 26)) = some (.str (tx [97 + (i % 26).toNat])) := fun i h => by
    obtain ⟨k, hk⟩ : ∃ k : Nat, i % 26 = (k : Int) := ⟨(i % 26).toNat, by omega⟩
    have hk26 : k < 26 := by omega
    rw [hk, Int.toNat_natCast]
    refine ⟨?_, by rw [← hk]; exact gMod_int (by decide), abc_ix hk26⟩
    unfold isL
    have a : 97 ≤ 97 + k := by omega
    have b : 97 + k ≤ 122 := by omega
    simp [a, b]
  rw [← hF] at m26 ⊢
  by_cases w2 : code / 1664 % 3 = 2
  · rw [if_pos w2]
    obtain ⟨hc, g1, g2⟩ := letter (F + k / 8) (by omega)
    generalize 97 + ((F + k / 8) % 26).toNat = c at hc g2
    obtain ⟨n, hn⟩ : ∃ n : Nat, 1 + k % 8 = (n : Int) := ⟨(1 + k % 8).toNat, by omega⟩
    have gs := gMulS_str (z := tx [c]) (n := n) (by omega) (by omega) (by rw [tx_len, sizeLine_eq, List.length_singleton]; omega)
    rw [repS_one] at gs
    rw [hn, Int.toNat_natCast]
    refine ⟨?_, fun d hd => by rw [List.eq_of_mem_replicate hd]; exact hc⟩
    simp [d64, m26, d16, m3, w2, kd8, km8, g1, g2, hn, gs]
  · rw [if_neg w2]
    obtain ⟨lg, hlg⟩ : ∃ n : Nat, 1 + code % 8 = (n : Int) := ⟨(1 + code % 8).toNat, by omega⟩
    rw [hlg, Int.toNat_natCast]
    have lb : 1 ≤ lg ∧ lg ≤ 8 := by omega
    have ml : gMod (.int (code / 8)) (.int (lg : Nat)) = some (.int (code / 8 % (lg : Nat))) := gMod_int (by omega)
    obtain ⟨told, ht⟩ : ∃ t : Int, t = code / 8 % (lg : Nat) := ⟨_, rfl⟩
    rw [← ht] at ml ⊢
    obtain ⟨q, hq⟩ : ∃ q : Int, q = code / 1664 % 3 := ⟨_, rfl⟩
    have q0 : 0 ≤ q ∧ q < 3 := by omega
    rw [← hq] at m3 w2 ⊢
    obtain ⟨ch, hch⟩ : ∃ ch : Nat → Nat, ch = fun j : Nat => 97 + ((F + (q * (j : Int) + if (j : Int) = told then k else 0)) % 26).toNat := ⟨_, rfl⟩
    rw [← hch]
    have rg : rg1 [.int (lg : Nat)] = .ok (rangeD 0 lg) := by
      have : rg1 [.int (lg : Nat)] = .ok (rangeD 0 ((lg : Nat) : Int).toNat) := guard_ok (by omega)
      rw [this, Int.toNat_natCast]
    obtain ⟨env', e1, x7, x8, e2, h4⟩ := forL_ind (g := gtName 7) (f := (sSeq (sSet 8 (eM (eBin gMul (eBin gMod (eBin gDiv (eVar 0) (eC (.int 1664))) (eC (.int 3))) (eVar 7)) Ow.d))
    (sSeq (sIf (eB (eBin gEq (eVar 7) (eVar 5)) asB)
    (sSet 8 (eM (eM (eBinO gAdd (eVar 8) (eVar 1)) viewD) Ow.d))
    sSkip)
    (sSet 6 (eM (eM (eBinO gAdd (eVar 6) (eBin gIx (eVar 2) (eBin gMod (eM (eBinO gAdd (eVar 3) (eVar 8)) viewD) (eC (.int 26))))) viewD) Ow.d))))) (rangeD 0 lg)
      (fun i env => ∃ (x7 x8 : Option Ow), env = [some (.d (.int code)), some (.d (.int k)), some (.d (.str abc)), some (.d (.int F)), some (.d (.int (lg : Nat))), some (.d (.int told)), some (.d (.str (tx ((List.range i).map ch)))), x7, x8] ∧ ∀ c ∈ (List.range i).map ch, isL c = true) (fun i d env hd ⟨x7, x8, he, hl⟩ => by
        obtain ⟨hi, ed⟩ := rangeD_at hd
        rw [Int.zero_add] at ed
        subst ed he
        have hw : ((List.range i).map ch).length = i := by rw [List.length_map, List.length_range]
        have hw1 : (List.range (i + 1)).map ch = (List.range i).map ch ++ [ch i] := by rw [List.range_succ, List.map_append]; rfl
        rw [hw1]
        have hmul : gMul (.int q) (.int (i : Nat)) = some (.int (q * (i : Nat))) := gMul_by (by omega) (by omega)
        have qi : 0 ≤ q * (i : Nat) := Int.mul_nonneg q0.1 (by omega)
        obtain ⟨Z, hZ⟩ : ∃ Z : Int, Z = q * (i : Nat) := ⟨_, rfl⟩
        rw [← hZ] at hmul qi
        by_cases c : (i : Int) = told
        · subst c
          obtain ⟨hc, g1, g2⟩ := letter (F + (Z + k)) (by omega)
          have hci : ch i = 97 + ((F + (Z + k)) % 26).toNat := by rw [hch, hZ]; simp only [if_true]
          rw [← hci] at hc g2
          generalize (List.range i).map ch = w at hw hl ⊢
          generalize ch i = ch at hc g2 ⊢
          have hadd : gAdd (.str (tx w)) (.str (tx [ch])) = some (.d (.str (tx (w ++ [ch])))) := gAdd_tx (by rw [List.length_singleton]; omega)
          refine ⟨[some (.d (.int code)), some (.d (.int k)), some (.d (.str abc)), some (.d (.int F)), some (.d (.int (lg : Nat))), some (.d (.int (i : Int))), some (.d (.str (tx w))), some (.d (.int (i : Nat))), x8], rfl, [some (.d (.int code)), some (.d (.int k)), some (.d (.str abc)), some (.d (.int F)), some (.d (.int (lg : Nat))), some (.d (.int (i : Int))), some (.d (.str (tx (w ++ [ch])))), some (.d (.int (i : Nat))), some (.d (.int (Z + k)))], .inl ?_, _, _, rfl, fun d hd => ?_⟩
          · simp [d16, m3, hmul, hadd, g1, g2]
          · rcases List.mem_append.mp hd with h | h
            · exact hl d h
            · rw [List.mem_singleton] at h; subst h; exact hc
        · obtain ⟨hc, g1, g2⟩ := letter (F + Z) (by omega)
          have hci : ch i = 97 + ((F + Z) % 26).toNat := by rw [hch, hZ]; simp only [if_neg c, Int.add_zero]
          rw [← hci] at hc g2
          generalize (List.range i).map ch = w at hw hl ⊢
          generalize ch i = ch at hc g2 ⊢
          have hadd : gAdd (.str (tx w)) (.str (tx [ch])) = some (.d (.str (tx (w ++ [ch])))) := gAdd_tx (by rw [List.length_singleton]; omega)
          refine ⟨[some (.d (.int code)), some (.d (.int k)), some (.d (.str abc)), some (.d (.int F)), some (.d (.int (lg : Nat))), some (.d (.int told)), some (.d (.str (tx w))), some (.d (.int (i : Nat))), x8], rfl, [some (.d (.int code)), some (.d (.int k)), some (.d (.str abc)), some (.d (.int F)), some (.d (.int (lg : Nat))), some (.d (.int told)), some (.d (.str (tx (w ++ [ch])))), some (.d (.int (i : Nat))), some (.d (.int Z))], .inl ?_, _, _, rfl, fun d hd => ?_⟩
          · simp [d16, m3, hmul, c, hadd, g1, g2]
          · rcases List.mem_append.mp hd with h | h
            · exact hl d h
            · rw [List.mem_singleton] at h; subst h; exact hc) [some (.d (.int code)), some (.d (.int k)), some (.d (.str abc)), some (.d (.int F)), some (.d (.int (lg : Nat))), some (.d (.int told)), some (.d (.str (tx []))), none, none] ⟨none, none, rfl, fun c h => by cases h⟩
    subst e2
    rw [show (rangeD 0 lg).length = lg from by simp [rangeD]] at e1 h4
    refine ⟨?_, h4⟩
    have em := empty_is
    simp [d64, m26, d16, m3, w2, d8, m8, hlg, ml, em, rg, e1]
theorem name_fin (code k : Int) (c0 : 0 ≤ code) (c1 : code < 10000000) (k0 : 0 ≤ k) (k1 : k < 1000) : ∃ w : List Nat, finR (bName (envOf 7 [.int code, .int k])) = .ok (.d (.str (tx w))) ∧ (∀ c ∈ w, isL c = true) := ⟨_, name_eq code k c0 c1 k0 k1⟩
/-- a def that draws a number below most -/
def Draws (fd : List D → R Ow) : Prop := ∀ (dk : List Int) (most : Int), 0 < most → ∃ r dk', 0 ≤ r ∧ r < most ∧ fd (dkD dk :: [.int most]) = tells (.int r) dk'
abbrev bNumbers (c0 : Int) : Ev → SR := (sSeq (sSet 2 (eLc (eB (eM (eSl (eVar 0) oNone (eB (eVar 1) asI)) viewD) itD) (gtName 3) cYes (eM (eBin gMod (eVar 3) (eBin gPow (eC (.int 10)) (eC (.int 59)))) Ow.d) [3]))
    (sSeq (sSet 4 (eM (eM (eBinO gAdd (eC (.int c0)) (eBin gMod (eM (eCa gSum (aCons (eB (eVarO 2) shD) aNil)) viewD) (eC (.int 2147483647)))) viewD) Ow.d))
    (sSeq (whileN (eB (eBin gLt (eM (eCa gLen (aCons (eB (eVarO 2) shD) aNil)) viewD) (eVar 1)) asB)
    (sSeq (sSet 4 (eM (eBin gMod (eM (eBinO gAdd (eB (eBinO gAdd (eBin gMul (eVar 4) (eVar 4)) (eBin gMul (eC (.int 48271)) (eVar 4))) shD) (eB (eCa gLen (aCons (eB (eVarO 2) shD) aNil)) shD)) viewD) (eC (.int 2147483647))) Ow.d))
    (sApp 2 (eM (eVar 4) Ow.d))) 1000000)
    (sRet (eListRev (eB (eVarO 2) shD))))))
theorem numbers_loop (c : Option Ow) (x3 : Option Ow) (most : Nat) (hm : most ≤ 100000) : ∀ (r n : Nat) (dk : List Int) (z : Int), most - dk.length ≤ r → r < n → 0 ≤ z → z < 2 ^ 33 →
    ∃ dk' z', whileN (eB (eBin gLt (eM (eCa gLen (aCons (eB (eVarO 2) shD) aNil)) viewD) (eVar 1)) asB)
    (sSeq (sSet 4 (eM (eBin gMod (eM (eBinO gAdd (eB (eBinO gAdd (eBin gMul (eVar 4) (eVar 4)) (eBin gMul (eC (.int 48271)) (eVar 4))) shD) (eB (eCa gLen (aCons (eB (eVarO 2) shD) aNil)) shD)) viewD) (eC (.int 2147483647))) Ow.d))
    (sApp 2 (eM (eVar 4) Ow.d))) n [c, some (.d (.int (most : Nat))), some (dkO dk), x3, some (.d (.int z))] = .nx [c, some (.d (.int (most : Nat))), some (dkO dk'), x3, z']
  | r, 0, dk, z, _, h, _, _ => by omega
  | 0, n + 1, dk, z, h, _, _, _ => by
    have sh := shD_dk dk
    have gl : gLen [dkD dk] = some (.d (.int (dk.length : Nat))) := by rw [gLen_list, List.length_map]
    have nl : ¬ dk.length < most := by omega
    refine ⟨dk, some (.d (.int z)), ?_⟩
    unfold whileN
    simp only [eB_eq, eBin_eq, eM_eq, eCa_eq, aCons_eq, aNil_eq, eVarO_2, sh, R.bind_ok, R.map_ok, gl, R.of_some, viewD_d, eVar_1, gLt_int, asB_bool, R.st_ok]
    rw [if_neg (by simp; omega)]
  | r + 1, n + 1, dk, z, h, hn, z0, z1 => by
    have sh := shD_dk dk
    have gl : gLen [dkD dk] = some (.d (.int (dk.length : Nat))) := by rw [gLen_list, List.length_map]
    by_cases lt : dk.length < most
    · have m1 : gMul (.int z) (.int z) = some (.int (z * z)) := gMul_by (by omega) (by omega)
      have m2 : gMul (.int 48271) (.int z) = some (.int (48271 * z)) := gMul_by (by omega) (by omega)
      have m3 : gMod (.int (z * z + 48271 * z + (dk.length : Nat))) (.int 2147483647) = some (.int ((z * z + 48271 * z + (dk.length : Nat)) % 2147483647)) := gMod_int (by decide)
      obtain ⟨y, hy⟩ : ∃ y, y = (z * z + 48271 * z + (dk.length : Nat)) % 2147483647 := ⟨_, rfl⟩
      have y0 : 0 ≤ y := by rw [hy]; exact Int.emod_nonneg _ (by decide)
      have y1 : y < 2147483647 := by rw [hy]; exact Int.emod_lt_of_pos _ (by decide)
      rw [← hy] at m3
      clear hy
      obtain ⟨dk', z', ih⟩ := numbers_loop c x3 most hm r n (dk ++ [y]) y (by simp; omega) (by omega) y0 (by omega)
      refine ⟨dk', z', ?_⟩
      rw [← ih]
      conv => lhs; unfold whileN
      have ct : (eB (eBin gLt (eM (eCa gLen (aCons (eB (eVarO 2) shD) aNil)) viewD) (eVar 1)) asB) [c, some (.d (.int (most : Nat))), some (dkO dk), x3, some (.d (.int z))] = .ok true := by
        simp [sh, gl, lt]
      have bd : (sSeq (sSet 4 (eM (eBin gMod (eM (eBinO gAdd (eB (eBinO gAdd (eBin gMul (eVar 4) (eVar 4)) (eBin gMul (eC (.int 48271)) (eVar 4))) shD) (eB (eCa gLen (aCons (eB (eVarO 2) shD) aNil)) shD)) viewD) (eC (.int 2147483647))) Ow.d))
    (sApp 2 (eM (eVar 4) Ow.d))) [c, some (.d (.int (most : Nat))), some (dkO dk), x3, some (.d (.int z))] = .nx [c, some (.d (.int (most : Nat))), some (dkO (dk ++ [y])), x3, some (.d (.int y))] := by
        have st : sSet 4 (eM (eBin gMod (eM (eBinO gAdd (eB (eBinO gAdd (eBin gMul (eVar 4) (eVar 4)) (eBin gMul (eC (.int 48271)) (eVar 4))) shD) (eB (eCa gLen (aCons (eB (eVarO 2) shD) aNil)) shD)) viewD) (eC (.int 2147483647))) Ow.d) [c, some (.d (.int (most : Nat))), some (dkO dk), x3, some (.d (.int z))] = .nx [c, some (.d (.int (most : Nat))), some (dkO dk), x3, some (.d (.int y))] := by
          simp [sh, gl, m1, m2, m3]
        rw [sSeq_eq, st]
        unfold dkO
        have hl : ((dk.map PyData.int).map Ow.d).length < sizeLine := by rw [List.length_map, List.length_map, sizeLine_eq]; omega
        simp only [SR.andThen, sApp_eq, ownL_2, eM_eq, eVar_4, R.map_ok, R.st_ok]
        rw [if_pos hl, List.map_append, List.map_append]
        rfl
      rw [ct, R.st_ok, if_pos rfl, bd]
    · refine ⟨dk, some (.d (.int z)), ?_⟩
      unfold whileN
      simp only [eB_eq, eBin_eq, eM_eq, eCa_eq, aCons_eq, aNil_eq, eVarO_2, sh, R.bind_ok, R.map_ok, gl, R.of_some, viewD_d, eVar_1, gLt_int, asB_bool, R.st_ok]
      rw [if_neg (by simp; omega)]
theorem intsD_ints : ∀ ns : List Int, intsD (ns.map PyData.int) = some ns
  | [] => rfl
  | n :: ns => by rw [List.map_cons]; unfold intsD; rw [intsD_ints ns]; rfl
theorem numbers_fin (c0 : Int) (h0 : 0 ≤ c0) (h1 : c0 < 1000000) (ns : List Int) (most : Nat) (hm : most ≤ 100000) (hl : ns.length ≤ 1000) : ∃ dk, finR (bNumbers c0 (envOf 3 [.list (ns.map PyData.int), .int (most : Nat)])) = .ok (dkO dk) := by
  have p59 : gPow (.int 10) (.int 59) = some (.int (10 ^ 59)) := gPow10 59 (by decide)
  obtain ⟨T, hT⟩ : ∃ T : Int, T = 10 ^ 59 := ⟨_, rfl⟩
  have hTp : 0 < T := by rw [hT]; decide
  rw [← hT] at p59
  have lc : eLc (eB (eM (eSl (eVar 0) oNone (eB (eVar 1) asI)) viewD) itD) (gtName 3) cYes (eM (eBin gMod (eVar 3) (eBin gPow (eC (.int 10)) (eC (.int 59)))) Ow.d) [3] [some (.d (.list (ns.map PyData.int))), some (.d (.int (most : Nat))), none, none, none] = .ok (dkO ((ns.take most).map fun c => c % T)) := by
    have sl : gSl (.list (ns.map PyData.int)) none (some (most : Int)) = some (.l (((ns.take most).map PyData.int).map Ow.d)) := by
      rw [gSl_list, cutL_take, ← List.map_take]
    have vw : viewD (.l (((ns.take most).map PyData.int).map Ow.d)) = .list ((ns.take most).map PyData.int) := by rw [viewD_l, viewAll_mapd]
    unfold dkO
    refine eLc_of (ds := (ns.take most).map PyData.int) ?_ (by rw [List.length_map, List.length_take, sizeLine_eq]; omega) ?_
    · generalize ((ns.take most).map PyData.int) = ds at sl vw
      generalize ds.map Ow.d = os at sl vw
      simp [sl, vw]
    · rw [List.map_map, List.map_map]
      refine lcR_map PyData.int _ (ns.take most) fun c _ => ⟨[some (.d (.list (ns.map PyData.int))), some (.d (.int (most : Nat))), none, some (.d (.int c)), none], by simp [wipeE], rfl, ?_⟩
      have md : gMod (.int c) (.int T) = some (.int (c % T)) := gMod_int hTp
      simp [p59, md]
  generalize (ns.take most).map (fun c => c % T) = dk0 at lc
  have sm : gSum [dkD dk0] = some (.d (.int dk0.sum)) := by
    show (intsD _).map _ = _
    rw [intsD_ints]
    rfl
  have md : gMod (.int dk0.sum) (.int 2147483647) = some (.int (dk0.sum % 2147483647)) := gMod_int (by decide)
  obtain ⟨z, hz⟩ : ∃ z, z = c0 + dk0.sum % 2147483647 := ⟨_, rfl⟩
  have b0 := Int.emod_nonneg dk0.sum (b := 2147483647) (by decide)
  have b1 := Int.emod_lt_of_pos dk0.sum (b := 2147483647) (by decide)
  have sh := shD_dk dk0
  obtain ⟨dk', z', lp⟩ := numbers_loop (some (.d (.list (ns.map PyData.int)))) none most hm most 1000000 dk0 z (by omega) (by omega) (by omega) (by omega)
  have sh' := shD_dk dk'
  refine ⟨dk'.reverse, ?_⟩
  have he : envOf 3 [.list (ns.map PyData.int), .int (most : Nat)] = [some (.d (.list (ns.map PyData.int))), some (.d (.int (most : Nat))), none, none, none] := rfl
  rw [he]
  refine fin_step (env1 := [some (.d (.list (ns.map PyData.int))), some (.d (.int (most : Nat))), some (dkO dk0), none, none]) (by rw [sSet_eq, lc]; rfl) ?_
  refine fin_step (env1 := [some (.d (.list (ns.map PyData.int))), some (.d (.int (most : Nat))), some (dkO dk0), none, some (.d (.int z))]) (by rw [hz]; simp [sh, sm, md]) ?_
  refine fin_step lp ?_
  have gr : gListRev (dkD dk') = some (dkO dk'.reverse) := by
    unfold dkO
    rw [gListRev_list, ← List.map_reverse]
  simp [sh', gr]
end
end Mir
set_option Elab.async false
set_option linter.all false
set_option maxRecDepth 100000
set_option maxHeartbeats 4000000
namespace Mir
open PySem PySem.Spec L2

def mar : Tr → Int
  | .mk _ k _ => k

end Mir
set_option Elab.async false
set_option linter.all false
set_option maxRecDepth 100000
set_option maxHeartbeats 4000000
namespace Mir
open PySem PySem.Spec L2
theorem lcX_dk {α β : Type} {g : D → Ev → Option Ev} {fe : Ev → R (D × Ev)} {vs : List Nat} (enc : α → D) (out : β → D) (P : α → β → Prop) (E : List Int → Ev) : ∀ (items : List α), (∀ a ∈ items, ∀ dk, ∃ (env1 : Ev) (b : β) (env2 : Ev) (dk' : List Int), g (enc a) (E dk) = some env1 ∧ fe env1 = .ok (out b, env2) ∧ wipeE env2 vs = E dk' ∧ P a b) →
    ∀ dk, ∃ (bs : List β) (dk' : List Int), lcX g fe vs (E dk) (items.map enc) = .ok (bs.map out, E dk') ∧ bs.length = items.length ∧ ∀ b ∈ bs, ∃ a ∈ items, P a b
  | [], _, dk => ⟨[], dk, rfl, rfl, fun b h => (by cases h)⟩
  | a :: items, h, dk => by
    obtain ⟨env1, b, env2, dk1, h1, h2, h3, h4⟩ := h a List.mem_cons_self dk
    obtain ⟨bs, dk', i1, i2, i3⟩ := lcX_dk enc out P E items (fun c hc => h c (List.mem_cons_of_mem _ hc)) dk1
    refine ⟨b :: bs, dk', ?_, by simp [i2], fun c hc => ?_⟩
    · rw [List.map_cons]
      unfold lcX
      rw [h1]
      simp only [h2, R.bind_ok, h3, i1]
      rfl
    · rcases List.mem_cons.mp hc with rfl | hc
      · exact ⟨a, List.mem_cons_self, h4⟩
      · obtain ⟨x, hx, p⟩ := i3 c hc
        exact ⟨x, List.mem_cons_of_mem _ hx, p⟩
theorem xLc_of {fi : Ev → R (List D)} {g : D → Ev → Option Ev} {fe : Ev → R (D × Ev)} {vs : List Nat} {env env0 env' : Ev} {ds rs : List D} (h1 : fi env = .ok ds) (hl : ds.length ≤ sizeLine) (h0 : wipeE env vs = env0) (h2 : lcX g fe vs env0 ds = .ok (rs, env')) : xLc fi g fe vs env = .ok (.list rs, env') := by
  unfold xLc
  rw [h1]
  simp only
  rw [guard_ok hl, h0, h2]
  rfl
noncomputable section
def Marks (fm : List D → R Ow) : Prop := ∀ dk, ∃ z dk', fm (dkD dk :: []) = tells (.int z) dk'
def Names (fn : List D → R Ow) (code : Int) (most : Int) : Prop := ∀ k : Int, 0 ≤ k → k < most → ∃ w : List Nat, fn [.int code, .int k] = .ok (.d (.str (tx w))) ∧ ∀ c ∈ w, isL c = true
theorem levTs_of {n : Nat} : ∀ {bs : List Tr}, (∀ b ∈ bs, levT b ≤ n) → levTs bs ≤ n
  | [], _ => by rw [levTs]; omega
  | b :: bs, h => by
    rw [levTs]
    have := h b List.mem_cons_self
    have := levTs_of fun c hc => h c (List.mem_cons_of_mem _ hc)
    omega
end
end Mir
set_option Elab.async false
set_option linter.all false
set_option maxRecDepth 100000
set_option maxHeartbeats 4000000
namespace Mir
open PySem PySem.Spec L2

inductive Stp where
  | op
  | put (nm : Str) (k : Int) (ps : List Stp)
mutual
def encS : Stp → D
  | .op => .tuple [.str "open"]
  | .put nm k ps => .tuple [.str "put", .str nm, .int k, .tuple (encSs ps)]
def encSs : List Stp → List D
  | [] => []
  | p :: ps => encS p :: encSs ps
end
mutual
def levS : Stp → Nat
  | .op => 1
  | .put _ _ ps => levSs ps + 1
def levSs : List Stp → Nat
  | [] => 0
  | p :: ps => max (levS p) (levSs ps)
end
mutual
def okS : Stp → Prop
  | .op => True
  | .put nm _ ps => PyData.strOk nm = true ∧ ps.length ≤ 1000 ∧ okSs ps
def okSs : List Stp → Prop
  | [] => True
  | p :: ps => okS p ∧ okSs ps
end
mutual
def beg : Stp → Tr → Bool
  | .op, _ => true
  | .put nm k ps, .mk nm' k' bs => (nm == nm') && ((k == k') && ((ps.length == bs.length) && begs ps bs))
def begs : List Stp → List Tr → Bool
  | p :: ps, b :: bs => beg p b && begs ps bs
  | _, _ => true
end
def zipAll {α β : Type} (q : α → β → Bool) : List α → List β → Bool
  | a :: as, b :: bs => q a b && zipAll q as bs
  | _, _ => true
theorem encSs_map : ∀ ps : List Stp, encSs ps = ps.map encS
  | [] => by rw [encSs]; rfl
  | p :: ps => by rw [encSs, encSs_map ps]; rfl
theorem encS_put (nm : Str) (k : Int) (ps : List Stp) : encS (.put nm k ps) = .tuple [.str "put", .str nm, .int k, .tuple (ps.map encS)] := by rw [encS, encSs_map]
theorem encS_op : encS .op = .tuple [.str "open"] := by rw [encS]
theorem begs_zip : ∀ (ps : List Stp) (bs : List Tr), begs ps bs = zipAll beg ps bs
  | [], bs => by rw [begs, zipAll] <;> (intros; contradiction)
  | p :: ps, [] => by rw [begs, zipAll] <;> (intros; contradiction)
  | p :: ps, b :: bs => by rw [begs, zipAll, begs_zip ps bs]
theorem levSs_le {n : Nat} : ∀ {ps : List Stp}, levSs ps ≤ n → ∀ p ∈ ps, levS p ≤ n
  | [], _, b, h => by simp at h
  | c :: ps, h, b, hb => by
    rw [levSs] at h
    rcases List.mem_cons.mp hb with e | e
    · subst e; omega
    · exact levSs_le (by omega) b e
theorem okSs_iff : ∀ ps : List Stp, okSs ps ↔ ∀ p ∈ ps, okS p
  | [] => by simp [okSs]
  | p :: ps => by rw [okSs, okSs_iff ps]; simp
mutual
theorem can_encS : ∀ s : Stp, okS s → (encS s).canLay0 = true
  | .op, _ => by
    rw [encS, PyData.canLay0]
    have : PyData.strOk "open" = true := by decide +kernel
    simp [PyData.canLayAll0, PyData.canLay0, this]
  | .put nm k ps, h => by
    rw [okS] at h
    rw [encS, PyData.canLay0]
    have : PyData.strOk "put" = true := by decide +kernel
    simp [PyData.canLayAll0, PyData.canLay0, this, h.1, can_encSs ps h.2.2]
theorem can_encSs : ∀ ps : List Stp, okSs ps → PyData.canLayAll0 (encSs ps) = true
  | [], _ => by simp [encSs, PyData.canLayAll0]
  | p :: ps, h => by
    rw [okSs] at h
    rw [encSs, PyData.canLayAll0, can_encS p h.1, can_encSs ps h.2]
    rfl
end
mutual
theorem depth_encS : ∀ s : Stp, (encS s).depth ≤ 2 * levS s
  | .op => by rw [encS, levS]; simp [PyData.depth, PyData.depthAll]
  | .put nm k ps => by
    rw [encS, levS]
    have := depth_encSs ps
    simp only [PyData.depth, PyData.depthAll]
    omega
theorem depth_encSs : ∀ ps : List Stp, PyData.depthAll (encSs ps) ≤ 2 * levSs ps
  | [] => by simp [encSs, PyData.depthAll]
  | p :: ps => by
    rw [encSs, PyData.depthAll, levSs]
    have := depth_encS p
    have := depth_encSs ps
    omega
end
theorem nice_encS {s : Stp} (h : okS s) (hl : levS s ≤ 65) : Nice (encS s) := ⟨can_encS s h, by have := depth_encS s; omega⟩

@[simp] theorem gNe_str (a b : Str) : gNe (.str a) (.str b) = some (.bool (!(a == b))) := rfl
@[simp] theorem gEq_oo : gEq (.str (Str.ofString "open")) (.str (Str.ofString "open")) = some (.bool true) := by
  have h : (Str.ofString "open" == Str.ofString "open") = true := by decide +kernel
  rw [gEq_strs, str_eqv, h]
@[simp] theorem gEq_po : gEq (.str (Str.ofString "put")) (.str (Str.ofString "open")) = some (.bool false) := by
  have h : (Str.ofString "put" == Str.ofString "open") = false := by decide +kernel
  rw [gEq_strs, str_eqv, h]
theorem put_self : (Str.ofString "put" == Str.ofString "put") = true := by decide +kernel
@[simp] theorem gIsi_str_str (z : Str) : gIsi "str" (.str z) = .ok (.bool true) := rfl
@[simp] theorem gIsi_bool_bool (b : Bool) : gIsi "bool" (.bool b) = .ok (.bool true) := rfl
section
variable (nm : Str) (k : Int) (ps : List Stp) (bs : List Tr)
theorem p_ix0 : gIx (encS (.put nm k ps)) (.int 0) = some (.str "put") := by rw [encS_put]; simp
theorem p_ix1 : gIx (encS (.put nm k ps)) (.int 1) = some (.str nm) := by rw [encS_put]; simp
theorem p_ix2 : gIx (encS (.put nm k ps)) (.int 2) = some (.int k) := by rw [encS_put]; simp
theorem p_ix3 : gIx (encS (.put nm k ps)) (.int 3) = some (.tuple (ps.map encS)) := by rw [encS_put]; simp
theorem o_ix0 : gIx (encS .op) (.int 0) = some (.str "open") := by rw [encS_op]; simp
theorem t_ix0 : gIx (encT (.mk nm k bs)) (.int 0) = some (.str nm) := by rw [encT_mk]; simp
theorem t_ix1 : gIx (encT (.mk nm k bs)) (.int 1) = some (.int k) := by rw [encT_mk]; simp
theorem t_ix2 : gIx (encT (.mk nm k bs)) (.int 2) = some (.tuple (bs.map encT)) := by rw [encT_mk]; simp
end
noncomputable section
abbrev zipB (f : List D → R Ow) : Ev → SR := (sIf (tNotE (eB (eM (eB (aCons (eVar 2) (aCons (eVar 3) aNil)) f) viewD) asB))
    (sRet (eM (eC (.bool false)) Ow.d))
    sSkip)
theorem zpArg_tup (a b : List D) : zpArg [.tuple a, .tuple b] = .ok (zipD a b) := rfl
theorem len_beq (a b : Nat) : (((a : Nat) : Int) == ((b : Nat) : Int)) = (a == b) := by
  by_cases h : a = b
  · subst h; simp
  · have this : ¬ ((a : Int) = (b : Int)) := by omega
    rw [beq_eq_false_iff_ne.mpr h, beq_eq_false_iff_ne.mpr this]
end
end Mir
set_option Elab.async false
set_option linter.all false
set_option maxRecDepth 100000
set_option maxHeartbeats 4000000
namespace Mir
open PySem PySem.Spec L2
noncomputable section
end
end Mir
set_option Elab.async false
set_option linter.all false
set_option maxRecDepth 100000
set_option maxHeartbeats 4000000
namespace Mir
open PySem PySem.Spec L2
mutual
def met : Stp → Stp → Stp
  | .op, _ => .op
  | .put nm k ps, o => match o with
    | .op => .op
    | .put nm' k' qs => bif (nm == nm') && ((k == k') && (ps.length == qs.length)) then .put nm k (mets ps qs) else .op
def mets : List Stp → List Stp → List Stp
  | [], _ => []
  | p :: ps, qs => match qs with
    | [] => []
    | q :: qs => met p q :: mets ps qs
end
theorem met_op (o : Stp) : met .op o = .op := by rw [met]
theorem met_op2 (s : Stp) : met s .op = .op := by cases s <;> rw [met]
theorem met_put (nm nm' : Str) (k k' : Int) (ps qs : List Stp) : met (.put nm k ps) (.put nm' k' qs) = bif (nm == nm') && ((k == k') && (ps.length == qs.length)) then .put nm k (mets ps qs) else .op := by rw [met]
theorem met_same (nm : Str) (k : Int) {ps qs : List Stp} (h : ps.length = qs.length) : met (.put nm k ps) (.put nm k qs) = .put nm k (mets ps qs) := by
  rw [met_put]
  simp [h]
theorem met_unlike {nm nm' : Str} {k k' : Int} {ps qs : List Stp} (h : ¬ (nm = nm' ∧ k = k' ∧ ps.length = qs.length)) : met (.put nm k ps) (.put nm' k' qs) = .op := by
  rw [met_put]
  have : ((nm == nm') && ((k == k') && (ps.length == qs.length))) = false := by
    rw [Bool.eq_false_iff]
    intro c
    apply h
    simpa using c
  rw [this]
  rfl
theorem mets_nil (qs : List Stp) : mets [] qs = [] := by rw [mets]
theorem mets_nil2 (ps : List Stp) : mets ps [] = [] := by cases ps <;> rw [mets]
theorem mets_cons (p q : Stp) (ps qs : List Stp) : mets (p :: ps) (q :: qs) = met p q :: mets ps qs := by rw [mets]
theorem mets_zip : ∀ ps qs : List Stp, mets ps qs = List.zipWith met ps qs
  | [], qs => by rw [mets_nil]; rfl
  | p :: ps, [] => by rw [mets_nil2]; rfl
  | p :: ps, q :: qs => by rw [mets_cons, mets_zip ps qs]; rfl
theorem mets_len : ∀ ps qs : List Stp, (mets ps qs).length = min ps.length qs.length := fun ps qs => by rw [mets_zip, List.length_zipWith]
mutual
theorem met_comm : ∀ a b : Stp, met a b = met b a
  | .op, b => by rw [met_op, met_op2]
  | .put nm k ps, .op => by rw [met_op, met_op2]
  | .put nm k ps, .put nm' k' qs => by
    by_cases h : nm = nm' ∧ k = k' ∧ ps.length = qs.length
    · obtain ⟨rfl, rfl, h⟩ := h
      rw [met_same _ _ h, met_same _ _ h.symm, mets_comm ps qs]
    · rw [met_unlike h, met_unlike fun c => h ⟨c.1.symm, c.2.1.symm, c.2.2.symm⟩]
theorem mets_comm : ∀ as bs : List Stp, mets as bs = mets bs as
  | [], bs => by rw [mets_nil, mets_nil2]
  | a :: as, [] => by rw [mets_nil, mets_nil2]
  | a :: as, b :: bs => by rw [mets_cons, mets_cons, met_comm a b, mets_comm as bs]
end
mutual
theorem met_self : ∀ a : Stp, met a a = a
  | .op => by rw [met_op]
  | .put nm k ps => by rw [met_same _ _ rfl, mets_self ps]
theorem mets_self : ∀ as : List Stp, mets as as = as
  | [] => by rw [mets_nil]
  | a :: as => by rw [mets_cons, met_self a, mets_self as]
end
mutual
theorem met_assoc : ∀ a b c : Stp, met (met a b) c = met a (met b c)
  | .op, b, c => by rw [met_op, met_op, met_op]
  | .put nm k ps, .op, c => by rw [met_op2, met_op, met_op2]
  | .put nm k ps, .put nm' k' qs, .op => by rw [met_op2, met_op2, met_op2]
  | .put nm k ps, .put nm' k' qs, .put nm'' k'' rs => by
    by_cases h : nm = nm' ∧ k = k' ∧ ps.length = qs.length
    · obtain ⟨rfl, rfl, h⟩ := h
      rw [met_same _ _ h]
      by_cases g : nm = nm'' ∧ k = k'' ∧ qs.length = rs.length
      · obtain ⟨rfl, rfl, g⟩ := g
        rw [met_same _ _ g, met_same _ _ (by rw [mets_len]; omega), met_same _ _ (by rw [mets_len]; omega), mets_assoc ps qs rs]
      · rw [met_unlike (ps := qs) g, met_op2, met_unlike fun c => g ⟨c.1, c.2.1, by have := c.2.2; rw [mets_len] at this; omega⟩]
    · rw [met_unlike h, met_op]
      by_cases g : nm' = nm'' ∧ k' = k'' ∧ qs.length = rs.length
      · obtain ⟨rfl, rfl, g⟩ := g
        rw [met_same _ _ g, met_unlike fun c => h ⟨c.1, c.2.1, by have := c.2.2; rw [mets_len] at this; omega⟩]
      · rw [met_unlike g, met_op2]
theorem mets_assoc : ∀ as bs cs : List Stp, mets (mets as bs) cs = mets as (mets bs cs)
  | [], bs, cs => by rw [mets_nil, mets_nil, mets_nil]
  | a :: as, [], cs => by rw [mets_nil2, mets_nil, mets_nil2]
  | a :: as, b :: bs, [] => by rw [mets_nil2, mets_nil2, mets_nil2]
  | a :: as, b :: bs, c :: cs => by rw [mets_cons, mets_cons, mets_cons, mets_cons, met_assoc a b c, mets_assoc as bs cs]
end
theorem met_met (a b : Stp) : met (met a b) a = met a b := by rw [met_comm (met a b) a, ← met_assoc, met_self]
theorem levS_pos : ∀ s : Stp, 1 ≤ levS s
  | .op => by rw [levS]; omega
  | .put _ _ _ => by rw [levS]; omega
mutual
theorem lev_met : ∀ a b : Stp, levS (met a b) ≤ levS a
  | .op, b => by rw [met_op]; omega
  | .put nm k ps, .op => by rw [met_op2, levS]; exact levS_pos _
  | .put nm k ps, .put nm' k' qs => by
    by_cases h : nm = nm' ∧ k = k' ∧ ps.length = qs.length
    · obtain ⟨rfl, rfl, h⟩ := h
      rw [met_same _ _ h, levS, levS]
      have := lev_mets ps qs
      omega
    · rw [met_unlike h, levS]
      exact levS_pos _
theorem lev_mets : ∀ as bs : List Stp, levSs (mets as bs) ≤ levSs as
  | [], bs => by rw [mets_nil]; omega
  | a :: as, [] => by rw [mets_nil2, levSs]; omega
  | a :: as, b :: bs => by
    rw [mets_cons, levSs, levSs]
    have := lev_met a b
    have := lev_mets as bs
    omega
end
mutual
theorem ok_met : ∀ a b : Stp, okS a → okS (met a b)
  | .op, b, _ => by rw [met_op, okS]; trivial
  | .put nm k ps, .op, _ => by rw [met_op2, okS]; trivial
  | .put nm k ps, .put nm' k' qs, h => by
    by_cases c : nm = nm' ∧ k = k' ∧ ps.length = qs.length
    · obtain ⟨rfl, rfl, c⟩ := c
      rw [okS] at h
      rw [met_same _ _ c, okS, mets_len]
      exact ⟨h.1, by omega, ok_mets ps qs h.2.2⟩
    · rw [met_unlike c, okS]
      trivial
theorem ok_mets : ∀ as bs : List Stp, okSs as → okSs (mets as bs)
  | [], bs, _ => by rw [mets_nil, okSs]; trivial
  | a :: as, [], _ => by rw [mets_nil2, okSs]; trivial
  | a :: as, b :: bs, h => by
    rw [okSs] at h
    rw [mets_cons, okSs]
    exact ⟨ok_met a b h.1, ok_mets as bs h.2⟩
end
mutual
theorem beg_met : ∀ (a b : Stp) (t : Tr), beg a t = true → beg (met a b) t = true
  | .op, b, t, _ => by rw [met_op, beg]
  | .put nm k ps, .op, t, _ => by rw [met_op2, beg]
  | .put nm k ps, .put nm' k' qs, .mk nm'' k'' ts, h => by
    by_cases c : nm = nm' ∧ k = k' ∧ ps.length = qs.length
    · obtain ⟨rfl, rfl, c⟩ := c
      rw [beg] at h
      simp only [Bool.and_eq_true] at h
      rw [met_same _ _ c, beg, begs_mets ps qs ts h.2.2.2, mets_len, show min ps.length qs.length = ps.length from by omega, h.1, h.2.1, h.2.2.1]
      rfl
    · rw [met_unlike c, beg]
theorem begs_mets : ∀ (as bs : List Stp) (ts : List Tr), begs as ts = true → begs (mets as bs) ts = true
  | [], bs, ts, _ => by rw [mets_nil, begs]; intros; contradiction
  | a :: as, [], ts, _ => by rw [mets_nil2, begs]; intros; contradiction
  | a :: as, b :: bs, [], _ => by rw [mets_cons, begs]; intros; contradiction
  | a :: as, b :: bs, t :: ts, h => by
    rw [begs] at h
    rw [Bool.and_eq_true] at h
    rw [mets_cons, begs, beg_met a b t h.1, begs_mets as bs ts h.2]
    rfl
end
theorem zipD_zip {α β : Type} (e1 : α → D) (e2 : β → D) : ∀ (as : List α) (bs : List β), zipD (as.map e1) (bs.map e2) = (as.zip bs).map fun p => .tuple [e1 p.1, e2 p.2]
  | [], bs => by simp
  | a :: as, [] => by simp
  | a :: as, b :: bs => by rw [List.map_cons, List.map_cons, zipD_cons, zipD_zip e1 e2 as bs]; rfl
noncomputable section
abbrev bMet (f : List D → R Ow) : Ev → SR := (sSeq (sIf (tOrE (eB (eBin gEq (eBin gIx (eVar 0) (eC (.int 0))) (eC (.str "open"))) asB) (eB (eBin gEq (eBin gIx (eVar 1) (eC (.int 0))) (eC (.str "open"))) asB))
    (sRet (eM (eTup (aCons (eC (.str "open")) aNil)) Ow.d))
    sSkip)
    (sSeq (sIf (tOrE (eB (eBin gNe (eBin gIx (eVar 0) (eC (.int 1))) (eBin gIx (eVar 1) (eC (.int 1)))) asB) (tOrE (eB (eBin gNe (eBin gIx (eVar 0) (eC (.int 2))) (eBin gIx (eVar 1) (eC (.int 2)))) asB) (eB (eBin gNe (eM (eCa gLen (aCons (eBin gIx (eVar 0) (eC (.int 3))) aNil)) viewD) (eM (eCa gLen (aCons (eBin gIx (eVar 1) (eC (.int 3))) aNil)) viewD)) asB)))
    (sRet (eM (eTup (aCons (eC (.str "open")) aNil)) Ow.d))
    sSkip)
    (sRet (eM (eTup (aCons (eC (.str "put")) (aCons (eBin gIx (eVar 0) (eC (.int 1))) (aCons (eBin gIx (eVar 0) (eC (.int 2))) (aCons (eM (eCa gTuple (aCons (eB (eLc (eB (aCons (eBin gIx (eVar 0) (eC (.int 3))) (aCons (eBin gIx (eVar 1) (eC (.int 3))) aNil)) zpArg) (gtTup 2 (gtCons (gtName 2) (gtCons (gtName 3) gtNil))) cYes (eB (aCons (eVar 2) (aCons (eVar 3) aNil)) f) [2, 3]) shD) aNil)) viewD) aNil))))) Ow.d))))
theorem met_fin {f : List D → R Ow} (s t : Stp) (h : ∀ nm k ps qs, s = .put nm k ps → t = .put nm k qs → ps.length ≤ 1000 ∧ ∀ p ∈ ps, ∀ q ∈ qs, f [encS p, encS q] = .ok (.d (encS (met p q)))) : finR (bMet f (envOf 2 [encS s, encS t])) = .ok (.d (encS (met s t))) := by
  have he : envOf 2 [encS s, encS t] = [some (.d (encS s)), some (.d (encS t)), none, none] := rfl
  rw [he]
  cases s with
  | op =>
    rw [met_op]
    simp [o_ix0, encS_op, sizeLine_eq]
  | put nm k ps =>
    cases t with
    | op =>
      rw [met_op2]
      simp [o_ix0, p_ix0, encS_op, sizeLine_eq]
    | put nm' k' qs =>
      have lb := len_beq ps.length qs.length
      cases c1 : nm == nm' with
      | false =>
        rw [met_unlike (fun c => by simp [c.1] at c1), encS_op]
        simp [p_ix0, p_ix1, c1, sizeLine_eq]
      | true =>
        cases c2 : k == k' with
        | false =>
          rw [met_unlike (fun c => by simp [c.2.1] at c2), encS_op]
          simp [p_ix0, p_ix1, p_ix2, c1, c2, sizeLine_eq]
        | true =>
          cases c3 : ps.length == qs.length with
          | false =>
            rw [c3] at lb
            rw [met_unlike (fun c => by simp [c.2.2] at c3), encS_op]
            simp [p_ix0, p_ix1, p_ix2, p_ix3, c1, c2, lb, sizeLine_eq]
          | true =>
            rw [c3] at lb
            have n1 : nm = nm' := by simpa using c1
            have n2 : k = k' := by simpa using c2
            have n3 : ps.length = qs.length := by simpa using c3
            subst n1 n2
            obtain ⟨hl, h⟩ := h nm k ps qs rfl rfl
            rw [met_same _ _ n3, encS_put nm k (mets ps qs)]
            have lc : eLc (eB (aCons (eBin gIx (eVar 0) (eC (.int 3))) (aCons (eBin gIx (eVar 1) (eC (.int 3))) aNil)) zpArg) (gtTup 2 (gtCons (gtName 2) (gtCons (gtName 3) gtNil))) cYes (eB (aCons (eVar 2) (aCons (eVar 3) aNil)) f) [2, 3] [some (.d (encS (.put nm k ps))), some (.d (encS (.put nm k qs))), none, none] = .ok (.l ((ps.zip qs).map fun p => .d (encS (met p.1 p.2)))) := by
              refine eLc_of (ds := zipD (ps.map encS) (qs.map encS)) (by simp [p_ix3, zpArg_tup]) (by rw [zipD_len, List.length_map, List.length_map, sizeLine_eq]; omega) ?_
              rw [zipD_zip]
              refine lcR_map (fun p : Stp × Stp => PyData.tuple [encS p.1, encS p.2]) _ _ fun p hp => ⟨[some (.d (encS (.put nm k ps))), some (.d (encS (.put nm k qs))), some (.d (encS p.1)), some (.d (encS p.2))], by simp [wipeE], rfl, ?_⟩
              have := h p.1 (List.of_mem_zip hp).1 p.2 (List.of_mem_zip hp).2
              simp [this]
            have sh := unDs_of (fun p : Stp × Stp => encS (met p.1 p.2)) (ps.zip qs)
            have em : (mets ps qs).map encS = (ps.zip qs).map fun p => encS (met p.1 p.2) := by
              rw [mets_zip, ← List.map_uncurry_zip_eq_zipWith, List.map_map]
              rfl
            rw [em]
            generalize ((ps.zip qs).map fun p => encS (met p.1 p.2)) = rs at sh
            generalize ((ps.zip qs).map fun p => Ow.d (encS (met p.1 p.2))) = os at sh lc
            simp [p_ix0, p_ix1, p_ix2, p_ix3, c1, c2, n3, lb, lc, sh, sizeLine_eq]
end
end Mir
set_option Elab.async false
set_option linter.all false
set_option maxRecDepth 100000
set_option maxHeartbeats 4000000
namespace Mir
open PySem PySem.Spec L2
mutual
def stIn (ss : List Stp) : Trm → Stp
  | .call m _ => ss.getD m.toNat .op
  | .put nm kp ad ps => bif kp then .op else .put nm ad (stIns ss ps)
def stIns (ss : List Stp) : List Trm → List Stp
  | [] => []
  | p :: ps => stIn ss p :: stIns ss ps
end
theorem stIns_map (ss : List Stp) : ∀ ps : List Trm, stIns ss ps = ps.map (stIn ss)
  | [] => by rw [stIns]; rfl
  | p :: ps => by rw [stIns, stIns_map ss ps]; rfl
def metOf : List Stp → Stp
  | [] => .op
  | s :: ss => ss.foldl met s
/-- the one tells no more than the other -/
def leS (a b : Stp) : Prop := met a b = a
theorem leS_refl (a : Stp) : leS a a := met_self a
theorem leS_trans {a b c : Stp} (h : leS a b) (g : leS b c) : leS a c := by
  unfold leS at *
  rw [← h, met_assoc, g]
theorem leS_left (a b : Stp) : leS (met a b) a := met_met a b
theorem leS_right (a b : Stp) : leS (met a b) b := by
  unfold leS
  rw [met_assoc, met_self]
theorem leS_glb {y a b : Stp} (h : leS y a) (g : leS y b) : leS y (met a b) := by
  unfold leS at *
  rw [← met_assoc, h, g]
theorem foldl_le : ∀ (ss : List Stp) (s : Stp), leS (ss.foldl met s) s ∧ ∀ x ∈ ss, leS (ss.foldl met s) x
  | [], s => ⟨leS_refl s, fun x h => by cases h⟩
  | a :: ss, s => by
    rw [List.foldl_cons]
    obtain ⟨h1, h2⟩ := foldl_le ss (met s a)
    refine ⟨leS_trans h1 (leS_left s a), fun x hx => ?_⟩
    rcases List.mem_cons.mp hx with rfl | hx
    · exact leS_trans h1 (leS_right s x)
    · exact h2 x hx
theorem foldl_glb {y : Stp} : ∀ (ss : List Stp) (s : Stp), leS y s → (∀ x ∈ ss, leS y x) → leS y (ss.foldl met s)
  | [], s, h, _ => h
  | a :: ss, s, h, k => by
    rw [List.foldl_cons]
    exact foldl_glb ss (met s a) (leS_glb h (k a List.mem_cons_self)) fun x hx => k x (List.mem_cons_of_mem _ hx)
theorem metOf_le {l : List Stp} {x : Stp} (h : x ∈ l) : leS (metOf l) x := by
  cases l with
  | nil => cases h
  | cons s ss =>
    obtain ⟨h1, h2⟩ := foldl_le ss s
    rcases List.mem_cons.mp h with rfl | h
    · exact h1
    · exact h2 x h
theorem metOf_glb {y : Stp} {l : List Stp} (hl : l ≠ []) (h : ∀ x ∈ l, leS y x) : leS y (metOf l) := by
  cases l with
  | nil => exact absurd rfl hl
  | cons s ss => exact foldl_glb ss s (h s List.mem_cons_self) fun x hx => h x (List.mem_cons_of_mem _ hx)
mutual
def cS : Stp → Nat
  | .op => 0
  | .put _ _ ps => cSs ps + 1
def cSs : List Stp → Nat
  | [] => 0
  | p :: ps => cS p + cSs ps
end
theorem cS_zero {s : Stp} (h : cS s = 0) : s = .op := by
  cases s with
  | op => rfl
  | put nm k ps => rw [cS] at h; omega
mutual
theorem c_met : ∀ a b : Stp, cS (met a b) ≤ cS b ∧ (cS (met a b) = cS b → met a b = b)
  | .op, b => by
    rw [met_op, cS]
    exact ⟨Nat.zero_le _, fun h => (cS_zero h.symm).symm⟩
  | .put nm k ps, .op => by
    rw [met_op2, cS]
    exact ⟨Nat.le_refl _, fun _ => rfl⟩
  | .put nm k ps, .put nm' k' qs => by
    by_cases h : nm = nm' ∧ k = k' ∧ ps.length = qs.length
    · obtain ⟨rfl, rfl, h⟩ := h
      obtain ⟨h1, h2⟩ := cs_mets ps qs h
      rw [met_same _ _ h, cS, cS]
      exact ⟨by omega, fun e => by rw [h2 (by omega)]⟩
    · rw [met_unlike h, cS, cS]
      exact ⟨by omega, fun e => by omega⟩
theorem cs_mets : ∀ as bs : List Stp, as.length = bs.length → cSs (mets as bs) ≤ cSs bs ∧ (cSs (mets as bs) = cSs bs → mets as bs = bs)
  | [], [], _ => by rw [mets_nil]; exact ⟨Nat.le_refl _, fun _ => rfl⟩
  | [], _ :: _, h => by simp at h
  | _ :: _, [], h => by simp at h
  | a :: as, b :: bs, h => by
    obtain ⟨h1, h2⟩ := c_met a b
    obtain ⟨g1, g2⟩ := cs_mets as bs (by simpa using h)
    rw [mets_cons, cSs, cSs]
    exact ⟨by omega, fun e => by rw [h2 (by omega), g2 (by omega)]⟩
end
theorem leS_c {a b : Stp} (h : leS a b) : cS a ≤ cS b ∧ (cS a = cS b → a = b) := by
  have := c_met a b
  rw [h] at this
  exact this
theorem leS_lev {a b : Stp} (h : leS a b) : levS a ≤ levS b := by
  have := lev_met b a
  rw [met_comm, h] at this
  exact this
theorem leS_ok {a b : Stp} (h : leS a b) (hb : okS b) : okS a := by
  have := ok_met b a hb
  rw [met_comm, h] at this
  exact this
def leT : List Stp → List Stp → Prop
  | [], [] => True
  | a :: as, b :: bs => leS a b ∧ leT as bs
  | _, _ => False
theorem leT_at : ∀ {as bs : List Stp}, leT as bs → ∀ k, leS (as.getD k .op) (bs.getD k .op)
  | [], [], _, k => leS_refl _
  | a :: as, b :: bs, h, 0 => h.1
  | a :: as, b :: bs, h, k + 1 => leT_at h.2 k
  | [], _ :: _, h, _ => h.elim
  | _ :: _, [], h, _ => h.elim
theorem leT_map {α : Type} {f g : α → Stp} : ∀ {l : List α}, (∀ x ∈ l, leS (f x) (g x)) → leT (l.map f) (l.map g)
  | [], _ => trivial
  | x :: l, h => ⟨h x List.mem_cons_self, leT_map fun y hy => h y (List.mem_cons_of_mem _ hy)⟩
theorem leT_c : ∀ {as bs : List Stp}, leT as bs → cSs as ≤ cSs bs ∧ (cSs as = cSs bs → as = bs)
  | [], [], _ => ⟨Nat.le_refl _, fun _ => rfl⟩
  | a :: as, b :: bs, h => by
    obtain ⟨h1, h2⟩ := leS_c h.1
    obtain ⟨g1, g2⟩ := leT_c h.2
    rw [cSs, cSs]
    exact ⟨by omega, fun e => by rw [h2 (by omega), g2 (by omega)]⟩
  | [], _ :: _, h => h.elim
  | _ :: _, [], h => h.elim
mutual
theorem stIn_mono {as bs : List Stp} (h : leT as bs) : ∀ t : Trm, leS (stIn as t) (stIn bs t)
  | .call m b => by rw [stIn, stIn]; exact leT_at h _
  | .put nm kp ad ps => by
    rw [stIn, stIn]
    cases kp with
    | true => exact leS_refl _
    | false =>
      show met (.put nm ad _) (.put nm ad _) = _
      rw [met_same _ _ (by rw [stIns_map, stIns_map, List.length_map, List.length_map]), stIns_mono h ps]
      rfl
theorem stIns_mono {as bs : List Stp} (h : leT as bs) : ∀ ps : List Trm, mets (stIns as ps) (stIns bs ps) = stIns as ps
  | [] => by rw [stIns, mets_nil]
  | p :: ps => by rw [stIns, stIns, mets_cons, stIn_mono h p, stIns_mono h ps]
end
mutual
theorem stIn_calm (as bs : List Stp) : ∀ t : Trm, callsM t = [] → stIn as t = stIn bs t
  | .call m b, h => by rw [callsM] at h; cases h
  | .put nm kp ad ps, h => by
    rw [callsM] at h
    rw [stIn, stIn, stIns_calm as bs ps h]
theorem stIns_calm (as bs : List Stp) : ∀ ps : List Trm, callsMs ps = [] → stIns as ps = stIns bs ps
  | [], _ => by rw [stIns, stIns]
  | p :: ps, h => by
    rw [callsMs, List.append_eq_nil_iff] at h
    rw [stIns, stIns, stIn_calm as bs p h.1, stIns_calm as bs ps h.2]
end
/-- a mode: its rules, and which of them are those of rows without branches -/
structure Md where
  kd : Str
  rls : List (Bool × Trm)
def bares (m : Md) : List Trm := (m.rls.filter (·.1)).map (·.2)
def rulesM (m : Md) : List Trm := m.rls.map (·.2)
def MdOk (m : Md) : Prop := bares m ≠ [] ∧ ∀ t ∈ bares m, callsM t = []
def tab0 (ms : List Md) : List Stp := ms.map fun m => metOf ((bares m).map (stIn []))
def tabN (ms : List Md) (ss : List Stp) : List Stp := ms.map fun m => metOf ((rulesM m).map (stIn ss))
def tab (ms : List Md) : Nat → List Stp
  | 0 => tab0 ms
  | n + 1 => tabN ms (tab ms n)
theorem tabN_mono (ms : List Md) (hm : ∀ m ∈ ms, MdOk m) {as bs : List Stp} (h : leT as bs) : leT (tabN ms as) (tabN ms bs) := by
  refine leT_map fun m hmm => ?_
  have ne : rulesM m ≠ [] := by
    have := (hm m hmm).1
    intro e
    apply this
    unfold bares
    have : m.rls = [] := by unfold rulesM at e; simpa using e
    rw [this]; rfl
  refine metOf_glb (by simpa using ne) fun x hx => ?_
  obtain ⟨t, ht, rfl⟩ := List.mem_map.mp hx
  exact leS_trans (metOf_le (List.mem_map_of_mem ht)) (stIn_mono h t)
theorem tab_first (ms : List Md) (hm : ∀ m ∈ ms, MdOk m) : leT (tab ms 1) (tab ms 0) := by
  refine leT_map fun m hmm => ?_
  obtain ⟨h1, h2⟩ := hm m hmm
  refine metOf_glb (by simpa using h1) fun x hx => ?_
  obtain ⟨t, ht, rfl⟩ := List.mem_map.mp hx
  rw [stIn_calm [] (tab ms 0) t (h2 t ht)]
  refine metOf_le (List.mem_map_of_mem ?_)
  unfold bares at ht
  obtain ⟨p, hp, rfl⟩ := List.mem_map.mp ht
  exact List.mem_map_of_mem (List.mem_filter.mp hp).1
theorem tab_down (ms : List Md) (hm : ∀ m ∈ ms, MdOk m) : ∀ n, leT (tab ms (n + 1)) (tab ms n)
  | 0 => tab_first ms hm
  | n + 1 => tabN_mono ms hm (tab_down ms hm n)
theorem tab_stop (ms : List Md) (hm : ∀ m ∈ ms, MdOk m) : ∃ N, N ≤ cSs (tab ms 0) ∧ tab ms (N + 1) = tab ms N ∧ ∀ i, i < N → tab ms (i + 1) ≠ tab ms i := by
  have step : ∀ n, (∀ i, i < n → tab ms (i + 1) ≠ tab ms i) → cSs (tab ms n) + n ≤ cSs (tab ms 0) := fun n => by
    induction n with
    | zero => intro _; omega
    | succ n ih =>
      intro h
      have a := ih fun i hi => h i (by omega)
      obtain ⟨b, c⟩ := leT_c (tab_down ms hm n)
      have : cSs (tab ms (n + 1)) ≠ cSs (tab ms n) := fun e => h n (by omega) (c e)
      omega
  have ex : ∃ n, tab ms (n + 1) = tab ms n := by
    refine Classical.byContradiction fun no => ?_
    have := step (cSs (tab ms 0) + 1) fun i _ e => no ⟨i, e⟩
    omega
  have least : ∀ n, tab ms (n + 1) = tab ms n → ∃ N, tab ms (N + 1) = tab ms N ∧ ∀ i, i < N → tab ms (i + 1) ≠ tab ms i := fun n => by
    induction n using Nat.strongRecOn with
    | ind n ih =>
      intro h
      by_cases c : ∃ i, i < n ∧ tab ms (i + 1) = tab ms i
      · obtain ⟨i, hi, e⟩ := c
        exact ih i hi e
      · exact ⟨n, h, fun i hi e => c ⟨i, hi, e⟩⟩
  obtain ⟨n, hn⟩ := ex
  obtain ⟨N, h1, h2⟩ := least n hn
  refine ⟨N, ?_, h1, h2⟩
  have := step N h2
  omega
theorem tab_stay {ms : List Md} {N : Nat} (h : tab ms (N + 1) = tab ms N) : ∀ d, tab ms (N + d) = tab ms N
  | 0 => rfl
  | d + 1 => by
    rw [← Nat.add_assoc]
    show tabN ms (tab ms (N + d)) = _
    rw [tab_stay h d]
    exact h
/-- what the tables' stumps are like -/
theorem tab_len (ms : List Md) : ∀ n, (tab ms n).length = ms.length
  | 0 => by show (ms.map _).length = _; rw [List.length_map]
  | n + 1 => by show (ms.map _).length = _; rw [List.length_map]
theorem leT_mem : ∀ {as bs : List Stp}, leT as bs → ∀ a ∈ as, ∃ b ∈ bs, leS a b
  | [], [], _, a, h => by cases h
  | x :: as, y :: bs, h, a, ha => by
    rcases List.mem_cons.mp ha with rfl | ha
    · exact ⟨y, List.mem_cons_self, h.1⟩
    · obtain ⟨b, hb, e⟩ := leT_mem h.2 a ha
      exact ⟨b, List.mem_cons_of_mem _ hb, e⟩
  | [], _ :: _, h, _, _ => h.elim
  | _ :: _, [], h, _, _ => h.elim
theorem leT_trans : ∀ {as bs cs : List Stp}, leT as bs → leT bs cs → leT as cs
  | [], [], [], _, _ => trivial
  | a :: as, b :: bs, c :: cs, h, g => ⟨leS_trans h.1 g.1, leT_trans h.2 g.2⟩
  | [], _ :: _, _, h, _ => h.elim
  | _ :: _, [], _, h, _ => h.elim
  | [], [], _ :: _, _, g => g.elim
  | _ :: _, _ :: _, [], _, g => g.elim
theorem leT_refl : ∀ as : List Stp, leT as as
  | [] => trivial
  | a :: as => ⟨leS_refl a, leT_refl as⟩
theorem tab_le0 (ms : List Md) (hm : ∀ m ∈ ms, MdOk m) : ∀ n, leT (tab ms n) (tab ms 0)
  | 0 => leT_refl _
  | n + 1 => leT_trans (tab_down ms hm n) (tab_le0 ms hm n)
end Mir
set_option Elab.async false
set_option linter.all false
set_option maxRecDepth 100000
set_option maxHeartbeats 4000000
namespace Mir
open PySem PySem.Spec L2
structure Rw where
  nm : Str
  br : List Str
abbrev Wood := List (Str × List Rw)
def encRw (r : Rw) : D := .tuple [.str r.nm, .tuple (r.br.map PyData.str)]
def encKd (p : Str × List Rw) : D := .tuple [.str p.1, .list (p.2.map encRw)]
def encWd (w : Wood) : D := .list (w.map encKd)
structure Trn where
  wood : Wood
  start : Trm
  modes : List (Str × List Trm)
def encMo (p : Str × List Trm) : D := .tuple [.str p.1, .list (p.2.map encM)]
def encTn (t : Trn) : D := .tuple [encWd t.wood, encM t.start, .list (t.modes.map encMo)]
def rowsOf : Wood → Str → List Rw
  | [], _ => []
  | p :: w, k => bif p.1 == k then p.2 else rowsOf w k
def mdOf (w : Wood) (p : Str × List Trm) : Md := ⟨p.1, List.zipWith (fun (r : Rw) t => (r.br.isEmpty, t)) (rowsOf w p.1) p.2⟩
def mds (t : Trn) : List Md := t.modes.map (mdOf t.wood)
/-- a turning that the drawing makes -/
structure TnOk (t : Trn) : Prop where
  few : t.modes.length ≤ 100
  few1 : 1 ≤ t.modes.length
  rows : ∀ p ∈ t.modes, p.2.length = (rowsOf t.wood p.1).length ∧ p.2.length ≤ 100
  bare : ∀ p ∈ t.modes, MdOk (mdOf t.wood p)
  term : ∀ p ∈ t.modes, ∀ r ∈ p.2, okM r ∧ levM r ≤ 10 ∧ sizeM r ≤ 1000 ∧ ∀ c ∈ callsM r, 0 ≤ c.1 ∧ c.1 < t.modes.length
  names : (∀ p ∈ t.wood, PyData.strOk p.1 = true ∧ p.2.length ≤ 100 ∧ ∀ r ∈ p.2, PyData.strOk r.nm = true ∧ r.br.length ≤ 100 ∧ ∀ b ∈ r.br, PyData.strOk b = true)
  kinds : t.wood.length ≤ 100
  start : okM t.start ∧ levM t.start ≤ 10
theorem rules_mdOf {w : Wood} {p : Str × List Trm} (h : p.2.length = (rowsOf w p.1).length) : rulesM (mdOf w p) = p.2 := by
  have z : ∀ (rs : List Rw) (ts : List Trm), ts.length = rs.length → (List.zipWith (fun (r : Rw) t => (r.br.isEmpty, t)) rs ts).map (·.2) = ts := fun rs => by
    induction rs with
    | nil => intro ts h; cases ts with
      | nil => rfl
      | cons => simp at h
    | cons r rs ih =>
      intro ts h
      cases ts with
      | nil => simp at h
      | cons t ts => rw [List.zipWith_cons_cons, List.map_cons, ih ts (by simpa using h)]
  exact z _ _ h
theorem w_ix0 (t : Trn) : gIx (encTn t) (.int 0) = some (encWd t.wood) := by unfold encTn; simp
theorem w_ix1 (t : Trn) : gIx (encTn t) (.int 1) = some (encM t.start) := by unfold encTn; simp
theorem w_ix2 (t : Trn) : gIx (encTn t) (.int 2) = some (.list (t.modes.map encMo)) := by unfold encTn; simp
theorem gEq_str (a b : Str) : gEq (.str a) (.str b) = some (.bool (a == b)) := rfl
theorem nice_strs {l : List Str} (h : ∀ z ∈ l, PyData.strOk z = true) : Nice (.tuple (l.map PyData.str)) := by
  refine ⟨?_, ?_⟩
  · rw [PyData.canLay0]
    exact canAll_of _ fun d hd => by
      obtain ⟨z, hz, rfl⟩ := List.mem_map.mp hd
      rw [PyData.canLay0]; exact h z hz
  · rw [PyData.depth]
    have := depthAll_of (n := 0) (l.map PyData.str) fun d hd => by
      obtain ⟨z, hz, rfl⟩ := List.mem_map.mp hd
      simp [PyData.depth]
    omega
theorem bare_eq {r : Rw} (h : ∀ z ∈ r.br, PyData.strOk z = true) : gEq (.tuple (r.br.map PyData.str)) (.tuple []) = some (.bool r.br.isEmpty) := by
  have n0 : Nice (.tuple []) := nice_strs (l := []) (fun z hz => by cases hz)
  rw [gEq_nice (nice_strs h) n0]
  cases r.br with
  | nil => rfl
  | cons b bs => simp [PyData.eqv, PyData.eqvAll]
noncomputable section
abbrev rowsB : Ev → SR := (sIf (eB (eBin gEq (eVar 2) (eVar 1)) asB)
    (sRet (eM (eVar 3) Ow.d))
    sSkip)
theorem rows_loop (W0 : D) (k : Str) : ∀ (w : Wood) (x2 x3 : Option Ow), ∃ env', forL (gtTup 2 (gtCons (gtName 2) (gtCons (gtName 3) gtNil))) rowsB (w.map encKd) [some (.d W0), some (.d (.str k)), x2, x3] = if (w.any fun p => p.1 == k) then .rt (.d (.list ((rowsOf w k).map encRw))) env' else .nx env'
  | [], x2, x3 => ⟨[some (.d W0), some (.d (.str k)), x2, x3], by simp [forL]⟩
  | p :: w, x2, x3 => by
    have g : gtTup 2 (gtCons (gtName 2) (gtCons (gtName 3) gtNil)) (encKd p) [some (.d W0), some (.d (.str k)), x2, x3] = some [some (.d W0), some (.d (.str k)), some (.d (.str p.1)), some (.d (.list (p.2.map encRw)))] := rfl
    rw [List.map_cons, forL, g]
    cases c : p.1 == k with
    | true =>
      refine ⟨[some (.d W0), some (.d (.str k)), some (.d (.str p.1)), some (.d (.list (p.2.map encRw)))], ?_⟩
      have e : rowsB [some (.d W0), some (.d (.str k)), some (.d (.str p.1)), some (.d (.list (p.2.map encRw)))] = .rt (.d (.list (p.2.map encRw))) [some (.d W0), some (.d (.str k)), some (.d (.str p.1)), some (.d (.list (p.2.map encRw)))] := by
        generalize PyData.list (p.2.map encRw) = RS
        simp [gEq_str, c]
      simp only [e]
      rw [List.any_cons, c, rowsOf, c]
      rfl
    | false =>
      obtain ⟨env', ih⟩ := rows_loop W0 k w (some (.d (.str p.1))) (some (.d (.list (p.2.map encRw))))
      refine ⟨env', ?_⟩
      have e : rowsB [some (.d W0), some (.d (.str k)), some (.d (.str p.1)), some (.d (.list (p.2.map encRw)))] = .nx [some (.d W0), some (.d (.str k)), some (.d (.str p.1)), some (.d (.list (p.2.map encRw)))] := by
        generalize PyData.list (p.2.map encRw) = RS
        simp [gEq_str, c]
      simp only [e]
      rw [ih, List.any_cons, c, rowsOf, c]
      rfl
abbrev bRowsOf : Ev → SR := (sSeq (sFor (eB (eVar 0) itD) (gtTup 2 (gtCons (gtName 2) (gtCons (gtName 3) gtNil)))
    (sIf (eB (eBin gEq (eVar 2) (eVar 1)) asB)
    (sRet (eM (eVar 3) Ow.d))
    sSkip))
    (sRet (eLst aNil)))
/-- tells these rows, as data or as a list of its own -/
theorem rowsOf_fin (w : Wood) (k : Str) : ∃ o, finR (bRowsOf (envOf 2 [encWd w, .str k])) = .ok o ∧ viewD o = .list ((rowsOf w k).map encRw) := by
  have he : envOf 2 [encWd w, .str k] = [some (.d (encWd w)), some (.d (.str k)), none, none] := rfl
  rw [he]
  obtain ⟨env', lp⟩ := rows_loop (encWd w) k w none none
  have fo : (sFor (eB (eVar 0) itD) (gtTup 2 (gtCons (gtName 2) (gtCons (gtName 3) gtNil))) rowsB) [some (.d (encWd w)), some (.d (.str k)), none, none] = forL (gtTup 2 (gtCons (gtName 2) (gtCons (gtName 3) gtNil))) rowsB (w.map encKd) [some (.d (encWd w)), some (.d (.str k)), none, none] := by
    rw [sFor_eq]
    simp only [eB_eq, eVar_0, R.bind_ok]
    unfold encWd
    simp only [itD_list, R.st_ok]
  cases c : w.any fun p => p.1 == k with
  | true =>
    rw [c, if_pos rfl] at lp
    refine ⟨.d (.list ((rowsOf w k).map encRw)), ?_, viewD_d _⟩
    show finR (sSeq _ _ _) = _
    rw [sSeq_eq, fo, lp]
    rfl
  | false =>
    rw [c, if_neg (by decide)] at lp
    have e : rowsOf w k = [] := by
      have : ∀ w : Wood, (w.any fun p => p.1 == k) = false → rowsOf w k = [] := fun w => by
        induction w with
        | nil => intro _; rfl
        | cons p w ih =>
          intro h
          rw [List.any_cons, Bool.or_eq_false_iff] at h
          rw [rowsOf, h.1, ih h.2]
          rfl
      exact this w c
    refine ⟨.l [], ?_, by rw [e]; simp⟩
    show finR (sSeq _ _ _) = _
    rw [sSeq_eq, fo, lp]
    simp [sizeLine_eq]
abbrev bStumpIn (f : List D → R Ow) : Ev → SR := (sSeq (sIf (eB (eBin gEq (eBin gIx (eVar 0) (eC (.int 0))) (eC (.str "call"))) asB)
    (sRet (eM (eBin gIx (eVar 1) (eBin gIx (eVar 0) (eC (.int 1)))) Ow.d))
    sSkip)
    (sSeq (sIf (eB (eBin gIx (eVar 0) (eC (.int 2))) asB)
    (sRet (eM (eTup (aCons (eC (.str "open")) aNil)) Ow.d))
    sSkip)
    (sRet (eM (eTup (aCons (eC (.str "put")) (aCons (eBin gIx (eVar 0) (eC (.int 1))) (aCons (eBin gIx (eVar 0) (eC (.int 3))) (aCons (eM (eCa gTuple (aCons (eB (eLc (eB (eBin gIx (eVar 0) (eC (.int 4))) itD) (gtName 2) cYes (eB (aCons (eVar 2) (aCons (eVar 1) aNil)) f) [2]) shD) aNil)) viewD) aNil))))) Ow.d))))
section
variable (nm : Str) (kp : Bool) (ad : Int) (ps : List Trm) (m b : Int)
theorem m_ix0 : gIx (encM (.put nm kp ad ps)) (.int 0) = some (.str "put") := by rw [encM_put]; simp
theorem m_ix1 : gIx (encM (.put nm kp ad ps)) (.int 1) = some (.str nm) := by rw [encM_put]; simp
theorem m_ix2 : gIx (encM (.put nm kp ad ps)) (.int 2) = some (.bool kp) := by rw [encM_put]; simp
theorem m_ix3 : gIx (encM (.put nm kp ad ps)) (.int 3) = some (.int ad) := by rw [encM_put]; simp
theorem m_ix4 : gIx (encM (.put nm kp ad ps)) (.int 4) = some (.tuple (ps.map encM)) := by rw [encM_put]; simp
theorem c_ix0 : gIx (encM (.call m b)) (.int 0) = some (.str "call") := by rw [encM_call]; simp
theorem c_ix1 : gIx (encM (.call m b)) (.int 1) = some (.int m) := by rw [encM_call]; simp
theorem c_ix2 : gIx (encM (.call m b)) (.int 2) = some (.int b) := by rw [encM_call]; simp
end
theorem at_stumps {ss : List Stp} {m : Int} (h0 : 0 ≤ m) (h1 : m < ss.length) : atI (ss.map encS) m = some (encS (ss.getD m.toNat .op)) := by
  obtain ⟨k, rfl⟩ : ∃ k : Nat, m = k := ⟨m.toNat, by omega⟩
  have hl : k < ss.length := by omega
  rw [Int.toNat_natCast]
  refine atI_natD ?_
  rw [List.getElem?_map, List.getElem?_eq_getElem hl, List.getD_eq_getElem?_getD, List.getElem?_eq_getElem hl]
  rfl
/-- the list of stumps handed may be anything where nothing is called -/
theorem stumpIn_fin {f : List D → R Ow} (S : D) (ss : List Stp) (t : Trm) (hc : ∀ m b, t = .call m b → gIx S (.int m) = some (encS (ss.getD m.toNat .op))) (hl : ∀ nm kp ad ps, t = .put nm kp ad ps → ps.length ≤ 1000 ∧ (kp = false → ∀ p ∈ ps, f [encM p, S] = .ok (.d (encS (stIn ss p))))) :
    finR (bStumpIn f (envOf 1 [encM t, S])) = .ok (.d (encS (stIn ss t))) := by
  have he : envOf 1 [encM t, S] = [some (.d (encM t)), some (.d S), none] := rfl
  rw [he]
  cases t with
  | call m b =>
    have := hc m b rfl
    rw [stIn]
    simp [c_ix0, c_ix1, this]
  | put nm kp ad ps =>
    obtain ⟨l1, l2⟩ := hl nm kp ad ps rfl
    rw [stIn]
    cases kp with
    | true =>
      rw [cond_true, encS_op]
      simp [m_ix0, m_ix2, sizeLine_eq]
    | false =>
      rw [cond_false, encS_put, stIns_map, List.map_map]
      have lc : eLc (eB (eBin gIx (eVar 0) (eC (.int 4))) itD) (gtName 2) cYes (eB (aCons (eVar 2) (aCons (eVar 1) aNil)) f) [2] [some (.d (encM (.put nm false ad ps))), some (.d S), none] = .ok (.l (ps.map fun p => .d (encS (stIn ss p)))) := by
        refine eLc_of (ds := ps.map encM) (by simp [m_ix4]) (by rw [List.length_map, sizeLine_eq]; omega) (lcR_map encM _ ps fun p hp => ⟨[some (.d (encM (.put nm false ad ps))), some (.d S), some (.d (encM p))], by simp [wipeE], rfl, ?_⟩)
        simp [l2 rfl p hp]
      have sh := unDs_of (fun p => encS (stIn ss p)) ps
      have e2 : (ps.map (encS ∘ stIn ss)) = ps.map fun p => encS (stIn ss p) := rfl
      rw [e2]
      generalize (ps.map fun p => Ow.d (encS (stIn ss p))) = os at lc sh
      generalize (ps.map fun p => encS (stIn ss p)) = ds at sh
      simp [m_ix0, m_ix1, m_ix2, m_ix3, lc, sh, sizeLine_eq]
abbrev bMetOf (f : List D → R Ow) : Ev → SR := (sSeq (sSet 1 (eM (eBin gIx (eVar 0) (eC (.int 0))) Ow.d))
    (sSeq (sFor (eB (eM (eSl (eVar 0) (eB (eC (.int 1)) asI) oNone) viewD) itD) (gtName 2)
    (sSet 1 (eM (eM (eB (aCons (eVar 1) (aCons (eVar 2) aNil)) f) viewD) Ow.d)))
    (sRet (eM (eVar 1) Ow.d))))
def stD (ss : List Stp) : D := .list (ss.map encS)
theorem metOf_fin {f : List D → R Ow} {ss : List Stp} (hne : ss ≠ []) (P : Stp → Prop) (hP : ∀ s ∈ ss, P s) (hm : ∀ a b, P a → P b → f [encS a, encS b] = .ok (.d (encS (met a b))) ∧ P (met a b)) : finR (bMetOf f (envOf 2 [stD ss])) = .ok (.d (encS (metOf ss))) := by
  cases ss with
  | nil => exact absurd rfl hne
  | cons s rest =>
    have he : envOf 2 [stD (s :: rest)] = [some (.d (stD (s :: rest))), none, none] := rfl
    rw [he]
    obtain ⟨S, hS⟩ : ∃ S, S = stD (s :: rest) := ⟨_, rfl⟩
    have i0 : gIx S (.int 0) = some (encS s) := by rw [hS]; exact atI_natD (k := 0) (by rfl)
    have sl : gSl S (some 1) none = some (.l ((rest.map encS).map Ow.d)) := by
      rw [hS]
      unfold stD
      rw [gSl_list]
      have := cutL_drop ((s :: rest).map encS) 1
      rw [show ((1 : Nat) : Int) = 1 from rfl] at this
      rw [this]
      rfl
    have vw : viewD (.l ((rest.map encS).map Ow.d)) = .list (rest.map encS) := by rw [viewD_l, viewAll_mapd]
    rw [← hS]
    have loop : ∀ (l : List Stp) (a : Stp) (x2 : Option Ow), P a → (∀ s ∈ l, P s) → ∃ y2, forL (gtName 2) (sSet 1 (eM (eM (eB (aCons (eVar 1) (aCons (eVar 2) aNil)) f) viewD) Ow.d)) (l.map encS) [some (.d S), some (.d (encS a)), x2] = .nx [some (.d S), some (.d (encS (l.foldl met a))), y2] := fun l => by
      induction l with
      | nil => intro a x2 _ _; exact ⟨x2, by simp [forL]⟩
      | cons b l ih =>
        intro a x2 ha hl
        obtain ⟨h1, h2⟩ := hm a b ha (hl b List.mem_cons_self)
        obtain ⟨y2, e⟩ := ih (met a b) (some (.d (encS b))) h2 fun c hc => hl c (List.mem_cons_of_mem _ hc)
        refine ⟨y2, ?_⟩
        rw [List.map_cons, forL]
        have g : gtName 2 (encS b) [some (.d S), some (.d (encS a)), x2] = some [some (.d S), some (.d (encS a)), some (.d (encS b))] := rfl
        rw [g]
        have st : (sSet 1 (eM (eM (eB (aCons (eVar 1) (aCons (eVar 2) aNil)) f) viewD) Ow.d)) [some (.d S), some (.d (encS a)), some (.d (encS b))] = .nx [some (.d S), some (.d (encS (met a b))), some (.d (encS b))] := by simp [h1]
        simp only [st]
        rw [e]
        rfl
    obtain ⟨y2, lp⟩ := loop rest s none (hP s List.mem_cons_self) fun c hc => hP c (List.mem_cons_of_mem _ hc)
    refine fin_step (env1 := [some (.d S), some (.d (encS s)), none]) (by simp [i0]) ?_
    refine fin_step (env1 := [some (.d S), some (.d (encS (rest.foldl met s))), y2]) (by
      rw [sFor_eq]
      have e3 : (eB (eM (eSl (eVar 0) (eB (eC (.int 1)) asI) oNone) viewD) itD) [some (.d S), some (.d (encS s)), none] = .ok (rest.map encS) := by
        generalize (rest.map encS).map Ow.d = os at sl vw
        simp [sl, vw]
      rw [e3, R.st_ok]
      exact lp) ?_
    simp [metOf]
end
end Mir
set_option Elab.async false
set_option linter.all false
set_option maxRecDepth 100000
set_option maxHeartbeats 4000000
namespace Mir
open PySem PySem.Spec L2
theorem frz_of {i : Nat} {f : Ev → SR} {env : Ev} {o : Ow} (h : env[i]? = some (some o)) : sFrz i f env = f (env.set i (some (.d (viewD o)))) := by
  unfold sFrz frzV
  rw [h]
theorem seq_nx {f g : Ev → SR} {env env1 : Ev} {r : SR} (h1 : f env = .nx env1) (h2 : g env1 = r) : sSeq f g env = r := by
  rw [sSeq_eq, h1]
  exact h2
def stO (ss : List Stp) : Ow := .l (ss.map fun s => .d (encS s))
theorem viewD_stO (ss : List Stp) : viewD (stO ss) = stD ss := viewD_of encS ss
noncomputable section
abbrev firstIn (f2 : List D → R Ow) : Ev → SR := (sIf (eB (eBin gEq (eBin gIx (eVar 5) (eC (.int 1))) (eTup aNil)) asB)
    (sApp 4 (eB (aCons (eVar 6) (aCons (eM (eLst aNil) viewD) aNil)) f2))
    sSkip)
theorem firstIn_loop {f2 : List D → R Ow} (T : D) (x1 : Option Ow) (kd : Str) (RL : D) : ∀ (l : List (Rw × Trm)) (acc : List Stp) (x5 x6 : Option Ow), acc.length + l.length ≤ 1000 → (∀ q ∈ l, (∀ z ∈ q.1.br, PyData.strOk z = true) ∧ (q.1.br.isEmpty = true → f2 [encM q.2, .list []] = .ok (.d (encS (stIn [] q.2))))) →
    ∃ y5 y6, forL (gtTup 2 (gtCons (gtName 5) (gtCons (gtName 6) gtNil))) (firstIn f2) (l.map fun q => .tuple [encRw q.1, encM q.2]) [some (.d T), x1, some (.d (.str kd)), some (.d RL), some (stO acc), x5, x6] =
      .nx [some (.d T), x1, some (.d (.str kd)), some (.d RL), some (stO (acc ++ ((l.filter fun q => q.1.br.isEmpty).map fun q => stIn [] q.2))), y5, y6]
  | [], acc, x5, x6, _, _ => ⟨x5, x6, by simp [forL]⟩
  | q :: l, acc, x5, x6, hl, h => by
    obtain ⟨h1, h2⟩ := h q List.mem_cons_self
    have g : gtTup 2 (gtCons (gtName 5) (gtCons (gtName 6) gtNil)) (.tuple [encRw q.1, encM q.2]) [some (.d T), x1, some (.d (.str kd)), some (.d RL), some (stO acc), x5, x6] = some [some (.d T), x1, some (.d (.str kd)), some (.d RL), some (stO acc), some (.d (encRw q.1)), some (.d (encM q.2))] := rfl
    have i1 : gIx (encRw q.1) (.int 1) = some (.tuple (q.1.br.map PyData.str)) := by unfold encRw; simp
    have be := bare_eq h1
    have vn : viewD (.l []) = .list [] := by simp
    rw [List.map_cons, forL, g]
    cases c : q.1.br.isEmpty with
    | false =>
      rw [c] at be
      have e : firstIn f2 [some (.d T), x1, some (.d (.str kd)), some (.d RL), some (stO acc), some (.d (encRw q.1)), some (.d (encM q.2))] = .nx [some (.d T), x1, some (.d (.str kd)), some (.d RL), some (stO acc), some (.d (encRw q.1)), some (.d (encM q.2))] := by
        simp [i1, be, sizeLine_eq]
      obtain ⟨y5, y6, ih⟩ := firstIn_loop (f2 := f2) T x1 kd RL l acc (some (.d (encRw q.1))) (some (.d (encM q.2))) (by simp at hl; omega) fun r hr => h r (List.mem_cons_of_mem _ hr)
      refine ⟨y5, y6, ?_⟩
      simp only [e]
      rw [ih, List.filter_cons_of_neg (by simp [c])]
    | true =>
      rw [c] at be
      have h2 := h2 c
      have al : (acc.map fun s => Ow.d (encS s)).length < 16777216 := by rw [List.length_map]; simp at hl; omega
      have am : (acc.map fun s => Ow.d (encS s)) ++ [Ow.d (encS (stIn [] q.2))] = (acc ++ [stIn [] q.2]).map fun s => Ow.d (encS s) := by simp
      have e : firstIn f2 [some (.d T), x1, some (.d (.str kd)), some (.d RL), some (stO acc), some (.d (encRw q.1)), some (.d (encM q.2))] = .nx [some (.d T), x1, some (.d (.str kd)), some (.d RL), some (stO (acc ++ [stIn [] q.2])), some (.d (encRw q.1)), some (.d (encM q.2))] := by
        unfold stO
        rw [← am]
        generalize (acc.map fun s => Ow.d (encS s)) = os at al
        simp [i1, be, h2, vn, sizeLine_eq, al]
      obtain ⟨y5, y6, ih⟩ := firstIn_loop (f2 := f2) T x1 kd RL l (acc ++ [stIn [] q.2]) (some (.d (encRw q.1))) (some (.d (encM q.2))) (by simp at hl ⊢; omega) fun r hr => h r (List.mem_cons_of_mem _ hr)
      refine ⟨y5, y6, ?_⟩
      simp only [e]
      rw [ih, List.filter_cons_of_pos (by simp [c])]
      simp
theorem bares_zip (w : Wood) (p : Str × List Trm) : bares (mdOf w p) = (((rowsOf w p.1).zip p.2).filter fun q => q.1.br.isEmpty).map (·.2) := by
  unfold bares mdOf
  show ((List.zipWith (fun (r : Rw) t => (r.br.isEmpty, t)) (rowsOf w p.1) p.2).filter (·.1)).map (·.2) = _
  generalize rowsOf w p.1 = rs
  generalize p.2 = ts
  induction rs generalizing ts with
  | nil => rfl
  | cons r rs ih =>
    cases ts with
    | nil => rfl
    | cons t ts =>
      rw [List.zipWith_cons_cons, List.zip_cons_cons]
      cases c : r.br.isEmpty with
      | true =>
        rw [List.filter_cons_of_pos (by simp [c]), List.filter_cons_of_pos (by simp [c]), List.map_cons, List.map_cons, ih ts]
      | false =>
        rw [List.filter_cons_of_neg (by simp [c]), List.filter_cons_of_neg (by simp [c]), ih ts]
abbrev firstB (f1 f2 f3 : List D → R Ow) : Ev → SR := (sSeq (sSet 4 (eLst aNil))
    (sSeq (sFor (eB (aCons (eM (eB (aCons (eBin gIx (eVar 0) (eC (.int 0))) (aCons (eVar 2) aNil)) f1) viewD) (aCons (eVar 3) aNil)) zpArg) (gtTup 2 (gtCons (gtName 5) (gtCons (gtName 6) gtNil)))
    (firstIn f2))
    (sFrz 4 (sApp 1 (eB (aCons (eVar 4) aNil) f3)))))
/-- what the parts promise -/
structure Parts (t : Trn) (f1 f2 f3 : List D → R Ow) : Prop where
  rows : ∀ p ∈ t.modes, ∃ o, f1 [encWd t.wood, .str p.1] = .ok o ∧ viewD o = .list ((rowsOf t.wood p.1).map encRw)
  bare : ∀ p ∈ t.modes, ∀ r ∈ p.2, callsM r = [] → f2 [encM r, .list []] = .ok (.d (encS (stIn [] r)))
  stump : ∀ p ∈ t.modes, ∀ r ∈ p.2, ∀ ss : List Stp, ss.length = t.modes.length → f2 [encM r, stD ss] = .ok (.d (encS (stIn ss r)))
  met0 : ∀ p ∈ t.modes, f3 [stD ((bares (mdOf t.wood p)).map (stIn []))] = .ok (.d (encS (metOf ((bares (mdOf t.wood p)).map (stIn [])))))
  metN : ∀ p ∈ t.modes, ∀ n : Nat, f3 [stD (p.2.map (stIn (tab (mds t) n)))] = .ok (.d (encS (metOf (p.2.map (stIn (tab (mds t) n))))))
theorem first_turn {t : Trn} (ok : TnOk t) {f1 f2 f3 : List D → R Ow} (P : Parts t f1 f2 f3) (p : Str × List Trm) (hp : p ∈ t.modes) (acc : List Stp) (hl : acc.length ≤ 1000) (x4 x5 x6 : Option Ow) :
    ∃ y4 y5 y6, firstB f1 f2 f3 [some (.d (encTn t)), some (stO acc), some (.d (.str p.1)), some (.d (.list (p.2.map encM))), x4, x5, x6] = .nx [some (.d (encTn t)), some (stO (acc ++ [metOf ((bares (mdOf t.wood p)).map (stIn []))])), some (.d (.str p.1)), some (.d (.list (p.2.map encM))), y4, y5, y6] := by
  obtain ⟨o, r1, r2⟩ := P.rows p hp
  obtain ⟨rl, rc⟩ := ok.rows p hp
  have hz : ∀ q ∈ (rowsOf t.wood p.1).zip p.2, (∀ z ∈ q.1.br, PyData.strOk z = true) ∧ (q.1.br.isEmpty = true → f2 [encM q.2, .list []] = .ok (.d (encS (stIn [] q.2)))) := fun q hq => by
    have q1 := (List.of_mem_zip hq).1
    have q2 := (List.of_mem_zip hq).2
    refine ⟨fun z hz => ?_, fun hb => ?_⟩
    · have : ∀ w : Wood, (∀ p ∈ w, PyData.strOk p.1 = true ∧ p.2.length ≤ 100 ∧ ∀ r ∈ p.2, PyData.strOk r.nm = true ∧ r.br.length ≤ 100 ∧ ∀ b ∈ r.br, PyData.strOk b = true) → ∀ r ∈ rowsOf w p.1, ∀ z ∈ r.br, PyData.strOk z = true := fun w => by
        induction w with
        | nil => intro _ r hr; cases hr
        | cons u w ih =>
          intro hw r hr
          rw [rowsOf] at hr
          cases c : u.1 == p.1 with
          | true => rw [c] at hr; exact ((hw u List.mem_cons_self).2.2 r hr).2.2
          | false => rw [c] at hr; exact ih (fun v hv => hw v (List.mem_cons_of_mem _ hv)) r hr
      exact this t.wood ok.names q.1 q1 z hz
    · refine P.bare p hp q.2 q2 ((ok.bare p hp).2 q.2 ?_)
      rw [bares_zip]
      exact List.mem_map_of_mem (List.mem_filter.mpr ⟨hq, hb⟩)
  obtain ⟨T, hT⟩ : ∃ T, T = encTn t := ⟨_, rfl⟩
  have i0 := w_ix0 t
  rw [← hT] at i0 ⊢
  obtain ⟨RL, hRL⟩ : ∃ R, R = PyData.list (p.2.map encM) := ⟨_, rfl⟩
  obtain ⟨y5, y6, lp⟩ := firstIn_loop (f2 := f2) T (some (stO acc)) p.1 RL ((rowsOf t.wood p.1).zip p.2) [] x5 x6 (by rw [List.length_zip]; simp; omega) hz
  rw [← hRL]
  obtain ⟨NB, hNB⟩ : ∃ NB, NB = (bares (mdOf t.wood p)).map (stIn []) := ⟨_, rfl⟩
  have eb : [] ++ ((((rowsOf t.wood p.1).zip p.2).filter fun q => q.1.br.isEmpty).map fun q => stIn [] q.2) = NB := by
    rw [hNB, bares_zip, List.map_map, List.nil_append]
    rfl
  rw [eb] at lp
  have m0 := P.met0 p hp
  rw [← hNB] at m0 ⊢
  have sl0 : stO [] = .l [] := rfl
  refine ⟨some (.d (stD NB)), y5, y6, ?_⟩
  refine seq_nx (env1 := [some (.d T), some (stO acc), some (.d (.str p.1)), some (.d RL), some (stO []), x5, x6]) (by simp [sizeLine_eq, sl0]) ?_
  refine seq_nx (env1 := [some (.d T), some (stO acc), some (.d (.str p.1)), some (.d RL), some (stO NB), y5, y6]) (by
    rw [sFor_eq]
    have e3 : (eB (aCons (eM (eB (aCons (eBin gIx (eVar 0) (eC (.int 0))) (aCons (eVar 2) aNil)) f1) viewD) (aCons (eVar 3) aNil)) zpArg) [some (.d T), some (stO acc), some (.d (.str p.1)), some (.d RL), some (stO []), x5, x6] = .ok (((rowsOf t.wood p.1).zip p.2).map fun q => .tuple [encRw q.1, encM q.2]) := by
      have z : zpArg [.list ((rowsOf t.wood p.1).map encRw), RL] = .ok (((rowsOf t.wood p.1).zip p.2).map fun q => .tuple [encRw q.1, encM q.2]) := by
        rw [hRL]
        show (.ok (zipD _ _) : R (List D)) = _
        rw [zipD_zip]
      generalize (((rowsOf t.wood p.1).zip p.2).map fun q : Rw × Trm => PyData.tuple [encRw q.1, encM q.2]) = zz at z
      generalize PyData.list ((rowsOf t.wood p.1).map encRw) = RR at z r2
      simp [i0, r1, r2, z]
    rw [e3, R.st_ok]
    exact lp) ?_
  rw [frz_of (o := stO NB) rfl, viewD_stO]
  have al : (acc.map fun s => Ow.d (encS s)).length < 16777216 := by rw [List.length_map]; omega
  have am : (acc.map fun s => Ow.d (encS s)) ++ [Ow.d (encS (metOf NB))] = (acc ++ [metOf NB]).map fun s => Ow.d (encS s) := by simp
  unfold stO
  rw [← am]
  generalize (acc.map fun s => Ow.d (encS s)) = os at al
  simp [m0, sizeLine_eq, al]
abbrev bFirst (f1 f2 f3 : List D → R Ow) : Ev → SR := (sSeq (sSet 1 (eLst aNil))
    (sSeq (sFor (eB (eBin gIx (eVar 0) (eC (.int 2))) itD) (gtTup 2 (gtCons (gtName 2) (gtCons (gtName 3) gtNil)))
    (firstB f1 f2 f3))
    (sRetV 1)))
theorem first_fin {t : Trn} (ok : TnOk t) {f1 f2 f3 : List D → R Ow} (P : Parts t f1 f2 f3) : finR (bFirst f1 f2 f3 (envOf 6 [encTn t])) = .ok (stO (tab (mds t) 0)) := by
  have he : envOf 6 [encTn t] = [some (.d (encTn t)), none, none, none, none, none, none] := rfl
  rw [he]
  have i2 := w_ix2 t
  have loop : ∀ (l : List (Str × List Trm)) (acc : List Stp) (x2 x3 x4 x5 x6 : Option Ow), (∀ p ∈ l, p ∈ t.modes) → acc.length + l.length ≤ 1000 → ∃ y2 y3 y4 y5 y6, forL (gtTup 2 (gtCons (gtName 2) (gtCons (gtName 3) gtNil))) (firstB f1 f2 f3) (l.map encMo) [some (.d (encTn t)), some (stO acc), x2, x3, x4, x5, x6] = .nx [some (.d (encTn t)), some (stO (acc ++ l.map fun p => metOf ((bares (mdOf t.wood p)).map (stIn [])))), y2, y3, y4, y5, y6] := fun l => by
    induction l with
    | nil => intro acc x2 x3 x4 x5 x6 _ _; exact ⟨x2, x3, x4, x5, x6, by simp [forL]⟩
    | cons p l ih =>
      intro acc x2 x3 x4 x5 x6 hl hc
      have g : gtTup 2 (gtCons (gtName 2) (gtCons (gtName 3) gtNil)) (encMo p) [some (.d (encTn t)), some (stO acc), x2, x3, x4, x5, x6] = some [some (.d (encTn t)), some (stO acc), some (.d (.str p.1)), some (.d (.list (p.2.map encM))), x4, x5, x6] := rfl
      obtain ⟨y4, y5, y6, e⟩ := first_turn ok P p (hl p List.mem_cons_self) acc (by simp at hc; omega) x4 x5 x6
      obtain ⟨z2, z3, z4, z5, z6, e2⟩ := ih (acc ++ [metOf ((bares (mdOf t.wood p)).map (stIn []))]) (some (.d (.str p.1))) (some (.d (.list (p.2.map encM)))) y4 y5 y6 (fun q hq => hl q (List.mem_cons_of_mem _ hq)) (by simp at hc ⊢; omega)
      refine ⟨z2, z3, z4, z5, z6, ?_⟩
      rw [List.map_cons, forL, g]
      simp only [e]
      rw [e2]
      simp
  obtain ⟨y2, y3, y4, y5, y6, lp⟩ := loop t.modes [] none none none none none (fun p hp => hp) (by have := ok.few; simp; omega)
  have e0 : ([] : List Stp) ++ t.modes.map (fun p => metOf ((bares (mdOf t.wood p)).map (stIn []))) = tab (mds t) 0 := by
    rw [List.nil_append]
    show _ = (mds t).map _
    unfold mds
    rw [List.map_map]
    rfl
  rw [e0] at lp
  refine fin_step (env1 := [some (.d (encTn t)), some (stO []), none, none, none, none, none]) (by have : stO [] = .l [] := rfl; simp [sizeLine_eq, this]) ?_
  refine fin_step (env1 := [some (.d (encTn t)), some (stO (tab (mds t) 0)), y2, y3, y4, y5, y6]) (by
    rw [sFor_eq]
    have e3 : (eB (eBin gIx (eVar 0) (eC (.int 2))) itD) [some (.d (encTn t)), some (stO []), none, none, none, none, none] = .ok (t.modes.map encMo) := by simp [i2]
    rw [e3, R.st_ok]
    exact lp) ?_
  generalize stO (tab (mds t) 0) = O
  simp [sRetV]
abbrev nextB (f2 f3 : List D → R Ow) : Ev → SR := (sApp 2 (eB (aCons (eM (eLc (eB (eBin gIx (eVar 3) (eC (.int 1))) itD) (gtName 4) cYes (eB (aCons (eVar 4) (aCons (eVar 1) aNil)) f2) [4]) viewD) aNil) f3))
abbrev bNext (f2 f3 : List D → R Ow) : Ev → SR := (sSeq (sSet 2 (eLst aNil))
    (sSeq (sFor (eB (eBin gIx (eVar 0) (eC (.int 2))) itD) (gtName 3)
    (nextB f2 f3))
    (sRetV 2)))
theorem next_fin {t : Trn} (ok : TnOk t) {f1 f2 f3 : List D → R Ow} (P : Parts t f1 f2 f3) (n : Nat) : finR (bNext f2 f3 (envOf 3 [encTn t, stD (tab (mds t) n)])) = .ok (stO (tab (mds t) (n + 1))) := by
  obtain ⟨SS, hSS⟩ : ∃ S, S = stD (tab (mds t) n) := ⟨_, rfl⟩
  rw [← hSS]
  have he : envOf 3 [encTn t, SS] = [some (.d (encTn t)), some (.d SS), none, none, none] := rfl
  rw [he]
  have i2 := w_ix2 t
  have tl : (tab (mds t) n).length = t.modes.length := by rw [tab_len]; unfold mds; rw [List.length_map]
  have turn : ∀ (p : Str × List Trm) (acc : List Stp) (x4 : Option Ow), p ∈ t.modes → acc.length ≤ 1000 → nextB f2 f3 [some (.d (encTn t)), some (.d SS), some (stO acc), some (.d (encMo p)), x4] = .nx [some (.d (encTn t)), some (.d SS), some (stO (acc ++ [metOf (p.2.map (stIn (tab (mds t) n)))])), some (.d (encMo p)), x4] := fun p acc x4 hp hl => by
    have i1 : gIx (encMo p) (.int 1) = some (.list (p.2.map encM)) := by unfold encMo; simp
    have lc : eLc (eB (eBin gIx (eVar 3) (eC (.int 1))) itD) (gtName 4) cYes (eB (aCons (eVar 4) (aCons (eVar 1) aNil)) f2) [4] [some (.d (encTn t)), some (.d SS), some (stO acc), some (.d (encMo p)), x4] = .ok (stO (p.2.map (stIn (tab (mds t) n)))) := by
      unfold stO
      rw [List.map_map]
      refine eLc_of (ds := p.2.map encM) (by simp [i1]) (by rw [List.length_map, sizeLine_eq]; have := (ok.rows p hp).2; omega) (lcR_map encM _ p.2 fun r hr => ⟨[some (.d (encTn t)), some (.d SS), some (stO acc), some (.d (encMo p)), some (.d (encM r))], by simp [wipeE, stO], rfl, ?_⟩)
      have := P.stump p hp r hr _ tl
      rw [← hSS] at this
      simp [this]
    have mN := P.metN p hp n
    have vw := viewD_stO (p.2.map (stIn (tab (mds t) n)))
    have al : (acc.map fun s => Ow.d (encS s)).length < 16777216 := by rw [List.length_map]; omega
    obtain ⟨M, hM⟩ : ∃ M, M = metOf (p.2.map (stIn (tab (mds t) n))) := ⟨_, rfl⟩
    rw [← hM] at mN ⊢
    have am : (acc.map fun s => Ow.d (encS s)) ++ [Ow.d (encS M)] = (acc ++ [M]).map fun s => Ow.d (encS s) := by simp
    generalize stO (p.2.map (stIn (tab (mds t) n))) = SO at lc vw
    unfold stO at lc ⊢
    rw [← am]
    generalize (acc.map fun s => Ow.d (encS s)) = os at al lc
    simp [lc, vw, mN, sizeLine_eq, al]
  have loop : ∀ (l : List (Str × List Trm)) (acc : List Stp) (x3 x4 : Option Ow), (∀ p ∈ l, p ∈ t.modes) → acc.length + l.length ≤ 1000 → ∃ y3 y4, forL (gtName 3) (nextB f2 f3) (l.map encMo) [some (.d (encTn t)), some (.d SS), some (stO acc), x3, x4] = .nx [some (.d (encTn t)), some (.d SS), some (stO (acc ++ l.map fun p => metOf (p.2.map (stIn (tab (mds t) n))))), y3, y4] := fun l => by
    induction l with
    | nil => intro acc x3 x4 _ _; exact ⟨x3, x4, by simp [forL]⟩
    | cons p l ih =>
      intro acc x3 x4 hl hc
      have g : gtName 3 (encMo p) [some (.d (encTn t)), some (.d SS), some (stO acc), x3, x4] = some [some (.d (encTn t)), some (.d SS), some (stO acc), some (.d (encMo p)), x4] := rfl
      have e := turn p acc x4 (hl p List.mem_cons_self) (by simp at hc; omega)
      obtain ⟨z3, z4, e2⟩ := ih (acc ++ [metOf (p.2.map (stIn (tab (mds t) n)))]) (some (.d (encMo p))) x4 (fun q hq => hl q (List.mem_cons_of_mem _ hq)) (by simp at hc ⊢; omega)
      refine ⟨z3, z4, ?_⟩
      rw [List.map_cons, forL, g]
      simp only [e]
      rw [e2]
      simp
  obtain ⟨y3, y4, lp⟩ := loop t.modes [] none none (fun p hp => hp) (by have := ok.few; simp; omega)
  have e0 : ([] : List Stp) ++ t.modes.map (fun p => metOf (p.2.map (stIn (tab (mds t) n)))) = tab (mds t) (n + 1) := by
    rw [List.nil_append]
    show _ = (mds t).map _
    unfold mds
    rw [List.map_map]
    refine List.map_congr_left fun p hp => ?_
    show _ = metOf ((rulesM (mdOf t.wood p)).map _)
    rw [rules_mdOf (ok.rows p hp).1]
  rw [e0] at lp
  refine fin_step (env1 := [some (.d (encTn t)), some (.d SS), some (stO []), none, none]) (by have : stO [] = .l [] := rfl; simp [sizeLine_eq, this]) ?_
  refine fin_step (env1 := [some (.d (encTn t)), some (.d SS), some (stO (tab (mds t) (n + 1))), y3, y4]) (by
    rw [sFor_eq]
    have e3 : (eB (eBin gIx (eVar 0) (eC (.int 2))) itD) [some (.d (encTn t)), some (.d SS), some (stO []), none, none] = .ok (t.modes.map encMo) := by simp [i2]
    rw [e3, R.st_ok]
    exact lp) ?_
  generalize stO (tab (mds t) (n + 1)) = O
  simp [sRetV]
end
end Mir
set_option Elab.async false
set_option linter.all false
set_option maxRecDepth 100000
set_option maxHeartbeats 4000000
namespace Mir
open PySem PySem.Spec L2
mutual
theorem eqv_encS : ∀ a b : Stp, PyData.eqv (encS a) (encS b) = true → a = b
  | .op, .op, _ => rfl
  | .op, .put nm k ps, h => by
    rw [encS, encS] at h
    simp [PyData.eqv, PyData.eqvAll] at h
  | .put nm k ps, .op, h => by
    rw [encS, encS] at h
    simp [PyData.eqv, PyData.eqvAll] at h
  | .put nm k ps, .put nm' k' qs, h => by
    rw [encS, encS] at h
    simp only [PyData.eqv, PyData.eqvAll, Bool.and_eq_true, beq_iff_eq] at h
    obtain ⟨_, h1, h2, h3, _⟩ := h
    rw [h1, h2, eqv_encSs ps qs h3]
theorem eqv_encSs : ∀ as bs : List Stp, PyData.eqvAll (encSs as) (encSs bs) = true → as = bs
  | [], [], _ => rfl
  | [], b :: bs, h => by rw [encSs, encSs] at h; simp [PyData.eqvAll] at h
  | a :: as, [], h => by rw [encSs, encSs] at h; simp [PyData.eqvAll] at h
  | a :: as, b :: bs, h => by
    rw [encSs, encSs] at h
    simp only [PyData.eqvAll, Bool.and_eq_true] at h
    rw [eqv_encS a b h.1, eqv_encSs as bs h.2]
end
theorem nice_stD {ss : List Stp} (h : ∀ s ∈ ss, okS s ∧ levS s ≤ 60) : Nice (stD ss) := by
  unfold stD
  refine ⟨?_, ?_⟩
  · rw [PyData.canLay0]
    exact canAll_of _ fun d hd => by
      obtain ⟨s, hs, rfl⟩ := List.mem_map.mp hd
      exact can_encS s (h s hs).1
  · rw [PyData.depth]
    have := depthAll_of (n := 120) (ss.map encS) fun d hd => by
      obtain ⟨s, hs, rfl⟩ := List.mem_map.mp hd
      have := depth_encS s
      have := (h s hs).2
      omega
    omega
theorem gEq_stD {as bs : List Stp} (ha : ∀ s ∈ as, okS s ∧ levS s ≤ 60) (hb : ∀ s ∈ bs, okS s ∧ levS s ≤ 60) (hn : as ≠ bs) : gEq (stD as) (stD bs) = some (.bool false) ∧ gNe (stD as) (stD bs) = some (.bool true) := by
  have e : PyData.eqv (stD as) (stD bs) = false := by
    rw [Bool.eq_false_iff]
    intro h
    refine hn (eqv_encSs as bs ?_)
    rw [encSs_map, encSs_map]
    unfold stD at h
    simpa [PyData.eqv] using h
  rw [gEq_nice (nice_stD ha) (nice_stD hb), gNe_nice (nice_stD ha) (nice_stD hb), e]
  exact ⟨rfl, rfl⟩
mutual
theorem stIn_lev {ss : List Stp} {L : Nat} (h1 : 1 ≤ L) (h : ∀ s ∈ ss, levS s ≤ L) : ∀ t : Trm, levS (stIn ss t) ≤ levM t + L
  | .call m b => by
    rw [stIn]
    have : ∀ k, levS (ss.getD k .op) ≤ L := fun k => by
      rw [List.getD_eq_getElem?_getD]
      cases e : ss[k]? with
      | none => show levS .op ≤ L; rw [levS]; exact h1
      | some s => exact h s (List.mem_of_getElem? e)
    have := this m.toNat
    omega
  | .put nm kp ad ps => by
    rw [stIn, levM]
    cases kp with
    | true => show levS .op ≤ _; rw [levS]; omega
    | false =>
      show levS (.put nm ad _) ≤ _
      rw [levS]
      have := stIns_lev h1 h ps
      omega
theorem stIns_lev {ss : List Stp} {L : Nat} (h1 : 1 ≤ L) (h : ∀ s ∈ ss, levS s ≤ L) : ∀ ps : List Trm, levSs (stIns ss ps) ≤ levMs ps + L
  | [] => by rw [stIns, levSs]; omega
  | p :: ps => by
    rw [stIns, levSs, levMs]
    have := stIn_lev h1 h p
    have := stIns_lev h1 h ps
    omega
end
mutual
theorem stIn_ok {ss : List Stp} (h : ∀ s ∈ ss, okS s) : ∀ t : Trm, okM t → okS (stIn ss t)
  | .call m b, _ => by
    rw [stIn, List.getD_eq_getElem?_getD]
    cases e : ss[m.toNat]? with
    | none => show okS .op; rw [okS]; trivial
    | some s => exact h s (List.mem_of_getElem? e)
  | .put nm kp ad ps, ok => by
    rw [okM] at ok
    rw [stIn]
    cases kp with
    | true => show okS .op; rw [okS]; trivial
    | false =>
      show okS (.put nm ad _)
      rw [okS, stIns_map, List.length_map, ← stIns_map]
      exact ⟨ok.1, ok.2.1, stIns_ok h ps ok.2.2⟩
theorem stIns_ok {ss : List Stp} (h : ∀ s ∈ ss, okS s) : ∀ ps : List Trm, okMs ps → okSs (stIns ss ps)
  | [], _ => by rw [stIns, okSs]; trivial
  | p :: ps, ok => by
    rw [okMs] at ok
    rw [stIns, okSs]
    exact ⟨stIn_ok h p ok.1, stIns_ok h ps ok.2⟩
end
mutual
theorem stIn_c : ∀ t : Trm, cS (stIn [] t) ≤ sizeM t
  | .call m b => by
    rw [stIn, sizeM]
    show cS .op ≤ 1
    rw [cS]; omega
  | .put nm kp ad ps => by
    rw [stIn, sizeM]
    cases kp with
    | true => show cS .op ≤ _; rw [cS]; omega
    | false =>
      show cS (.put nm ad _) ≤ _
      rw [cS]
      have := stIns_c ps
      omega
theorem stIns_c : ∀ ps : List Trm, cSs (stIns [] ps) ≤ sizeMs ps
  | [] => by rw [stIns, cSs]; omega
  | p :: ps => by
    rw [stIns, sizeMs, cSs]
    have := stIn_c p
    have := stIns_c ps
    omega
end
theorem bares_in {w : Wood} {p : Str × List Trm} : ∀ r ∈ bares (mdOf w p), r ∈ p.2 := fun r hr => by
  rw [bares_zip] at hr
  obtain ⟨q, hq, rfl⟩ := List.mem_map.mp hr
  exact (List.of_mem_zip (List.mem_filter.mp hq).1).2
theorem mds_ok {t : Trn} (ok : TnOk t) : ∀ m ∈ mds t, MdOk m := fun m hm => by
  obtain ⟨p, hp, rfl⟩ := List.mem_map.mp hm
  exact ok.bare p hp
theorem tab0_good {t : Trn} (ok : TnOk t) : ∀ s ∈ tab (mds t) 0, okS s ∧ levS s ≤ 11 ∧ cS s ≤ 1000 := fun s hs => by
  obtain ⟨m, hm, rfl⟩ := List.mem_map.mp (show s ∈ (mds t).map fun m => metOf ((bares m).map (stIn [])) from hs)
  obtain ⟨p, hp, rfl⟩ := List.mem_map.mp hm
  obtain ⟨h1, _⟩ := ok.bare p hp
  obtain ⟨r, rest, e⟩ : ∃ r rest, bares (mdOf t.wood p) = r :: rest := by
    cases e : bares (mdOf t.wood p) with
    | nil => exact absurd e h1
    | cons r rest => exact ⟨r, rest, rfl⟩
  have le : leS (metOf ((bares (mdOf t.wood p)).map (stIn []))) (stIn [] r) := metOf_le (by rw [e]; simp)
  obtain ⟨o1, o2, o3, _⟩ := ok.term p hp r (bares_in r (by rw [e]; simp))
  refine ⟨leS_ok le (stIn_ok (fun s h => by cases h) r o1), ?_, ?_⟩
  · have a := leS_lev le
    have b := stIn_lev (ss := []) (L := 1) (Nat.le_refl _) (fun s h => by cases h) r
    omega
  · have a := (leS_c le).1
    have b := stIn_c r
    omega
theorem tab_good {t : Trn} (ok : TnOk t) (n : Nat) : ∀ s ∈ tab (mds t) n, okS s ∧ levS s ≤ 11 := fun s hs => by
  obtain ⟨b, hb, le⟩ := leT_mem (tab_le0 (mds t) (mds_ok ok) n) s hs
  obtain ⟨h1, h2, _⟩ := tab0_good ok b hb
  exact ⟨leS_ok le h1, by have := leS_lev le; omega⟩
theorem tab_good60 {t : Trn} (ok : TnOk t) (n : Nat) : ∀ s ∈ tab (mds t) n, okS s ∧ levS s ≤ 60 := fun s hs => ⟨(tab_good ok n s hs).1, by have := (tab_good ok n s hs).2; omega⟩
theorem cSs_le {n : Nat} : ∀ {ss : List Stp}, (∀ s ∈ ss, cS s ≤ n) → cSs ss ≤ n * ss.length
  | [], _ => by rw [cSs]; omega
  | s :: ss, h => by
    rw [cSs, List.length_cons, Nat.mul_succ]
    have := h s List.mem_cons_self
    have := cSs_le (n := n) (ss := ss) fun x hx => h x (List.mem_cons_of_mem _ hx)
    omega
noncomputable section
def tbO (ms : List Md) (k : Nat) : Ow := .l ((List.range k).map fun i => .d (stD (tab ms i)))
def tbD (ms : List Md) (k : Nat) : D := .list ((List.range k).map fun i => stD (tab ms i))
theorem shD_tbO (ms : List Md) (k : Nat) : shD (tbO ms k) = .ok (tbD ms k) := unDs_of (fun i => stD (tab ms i)) (List.range k)
theorem last_tb (ms : List Md) (k : Nat) : gIx (tbD ms (k + 1)) (.int (-1)) = some (stD (tab ms k)) := by
  show atI ((List.range (k + 1)).map fun i => stD (tab ms i)) (-1) = _
  rw [List.range_succ, List.map_append]
  exact atI_last
abbrev levC : Ev → R Bool := (eB (eBin gLt (eM (eCa gLen (aCons (eB (eVarO 2) shD) aNil)) viewD) (eVar 1)) asB)
abbrev levB (f5 : List D → R Ow) : Ev → SR := (sSeq (sSet 3 (eM (eM (eB (aCons (eVar 0) (aCons (eBin gIx (eB (eVarO 2) shD) (eB (eC (.int 1)) gNeg)) aNil)) f5) viewD) Ow.d))
    (sSeq (sIf (eB (eBin gEq (eVar 3) (eBin gIx (eB (eVarO 2) shD) (eB (eC (.int 1)) gNeg))) asB)
    (sRetV 2)
    sSkip)
    (sApp 2 (eM (eVar 3) Ow.d))))
abbrev bLevels (f4 f5 : List D → R Ow) : Ev → SR := (sSeq (sSet 2 (eLst (aCons (eM (eB (aCons (eVar 0) aNil) f4) viewD) aNil)))
    (sSeq (whileN levC (levB f5) 1000000)
    (sRetV 2)))
/-- the tables told for so many levels -/
def howMany (N : Nat) (most : Int) : Nat := if most ≤ N + 1 then most.toNat else N + 1
theorem levels_loop {t : Trn} (ok : TnOk t) {f5 : List D → R Ow} (h5 : ∀ n, f5 [encTn t, stD (tab (mds t) n)] = .ok (stO (tab (mds t) (n + 1)))) {N : Nat} (hN : N ≤ 100000) (h1 : tab (mds t) (N + 1) = tab (mds t) N) (h2 : ∀ i, i < N → tab (mds t) (i + 1) ≠ tab (mds t) i) (most : Int) (hm : 1 ≤ most) :
    ∀ (d k n : Nat) (x3 : Option Ow), k + d = N → ((k + 1 : Nat) : Int) ≤ most → d + 2 ≤ n → finR (sSeq (whileN levC (levB f5) n) (sRetV 2) [some (.d (encTn t)), some (.d (.int most)), some (tbO (mds t) (k + 1)), x3]) = .ok (tbO (mds t) (howMany N most)) := by
  intro d
  induction d with
  | zero =>
    intro k n x3 hk hmo hn
    obtain ⟨n, rfl⟩ : ∃ m, n = m + 1 := ⟨n - 1, by omega⟩
    have hk : k = N := by omega
    subst hk
    have sh := shD_tbO (mds t) (k + 1)
    have la := last_tb (mds t) k
    have gl : gLen [tbD (mds t) (k + 1)] = some (.d (.int ((k + 1 : Nat) : Int))) := by
      have : gLen [tbD (mds t) (k + 1)] = some (Ow.d (.int ((List.range (k + 1)).map fun i => stD (tab (mds t) i)).length)) := rfl
      rw [this, List.length_map, List.length_range]
    have e5 := h5 k
    rw [h1] at e5
    have vw := viewD_stO (tab (mds t) k)
    have eq := gEq_self (nice_stD (tab_good60 ok k))
    by_cases c : most = ((k + 1 : Nat) : Int)
    · have hw : howMany k most = k + 1 := by unfold howMany; rw [if_pos (by omega)]; omega
      rw [hw]
      have c1 : levC [some (.d (encTn t)), some (.d (.int most)), some (tbO (mds t) (k + 1)), x3] = .ok false := by
        generalize tbO (mds t) (k + 1) = TO at sh
        have : ¬ ((k : Int) + 1 < most) := by omega
        cases TO with
        | d z => cases sh; simp [gl, this]
        | m _ | t _ | k _ _ | n _ _ | o _ _ _ => cases sh
        | l os => simp [sh, gl, this]
      rw [sSeq_eq, whileN, c1, R.st_ok]
      rfl
    · have hw : howMany k most = k + 1 := by unfold howMany; rw [if_neg (by omega)]
      rw [hw]
      have c1 : levC [some (.d (encTn t)), some (.d (.int most)), some (tbO (mds t) (k + 1)), x3] = .ok true := by
        have : (k : Int) + 1 < most := by omega
        unfold tbO at sh ⊢
        generalize ((List.range (k + 1)).map fun i => Ow.d (stD (tab (mds t) i))) = os at sh
        simp [sh, gl, this]
      have c2 : levB f5 [some (.d (encTn t)), some (.d (.int most)), some (tbO (mds t) (k + 1)), x3] = .rt (tbO (mds t) (k + 1)) [some (.d (encTn t)), some (.d (.int most)), none, some (.d (stD (tab (mds t) k)))] := by
        unfold tbO at sh ⊢
        generalize ((List.range (k + 1)).map fun i => Ow.d (stD (tab (mds t) i))) = os at sh
        simp [sh, la, e5, vw, eq, sRetV]
      rw [sSeq_eq, whileN, c1, R.st_ok, if_pos rfl, c2]
      rfl
  | succ d ih =>
    intro k n x3 hk hmo hn
    obtain ⟨n, rfl⟩ : ∃ m, n = m + 1 := ⟨n - 1, by omega⟩
    have sh := shD_tbO (mds t) (k + 1)
    have la := last_tb (mds t) k
    have gl : gLen [tbD (mds t) (k + 1)] = some (.d (.int ((k + 1 : Nat) : Int))) := by
      have : gLen [tbD (mds t) (k + 1)] = some (Ow.d (.int ((List.range (k + 1)).map fun i => stD (tab (mds t) i)).length)) := rfl
      rw [this, List.length_map, List.length_range]
    have e5 := h5 k
    have vw := viewD_stO (tab (mds t) (k + 1))
    have eq := (gEq_stD (tab_good60 ok (k + 1)) (tab_good60 ok k) (h2 k (by omega))).1
    by_cases c : most = ((k + 1 : Nat) : Int)
    · have hw : howMany N most = k + 1 := by unfold howMany; rw [if_pos (by omega)]; omega
      rw [hw]
      have c1 : levC [some (.d (encTn t)), some (.d (.int most)), some (tbO (mds t) (k + 1)), x3] = .ok false := by
        have : ¬ ((k : Int) + 1 < most) := by omega
        unfold tbO at sh ⊢
        generalize ((List.range (k + 1)).map fun i => Ow.d (stD (tab (mds t) i))) = os at sh
        simp [sh, gl, this]
      rw [sSeq_eq, whileN, c1, R.st_ok]
      rfl
    · have c1 : levC [some (.d (encTn t)), some (.d (.int most)), some (tbO (mds t) (k + 1)), x3] = .ok true := by
        have : (k : Int) + 1 < most := by omega
        unfold tbO at sh ⊢
        generalize ((List.range (k + 1)).map fun i => Ow.d (stD (tab (mds t) i))) = os at sh
        simp [sh, gl, this]
      have am : tbO (mds t) (k + 1 + 1) = .l (((List.range (k + 1)).map fun i => Ow.d (stD (tab (mds t) i))) ++ [.d (stD (tab (mds t) (k + 1)))]) := by
        unfold tbO
        rw [List.range_succ (n := k + 1), List.map_append]
        rfl
      have al : ((List.range (k + 1)).map fun i => Ow.d (stD (tab (mds t) i))).length < 16777216 := by rw [List.length_map, List.length_range]; omega
      have c2 : levB f5 [some (.d (encTn t)), some (.d (.int most)), some (tbO (mds t) (k + 1)), x3] = .nx [some (.d (encTn t)), some (.d (.int most)), some (tbO (mds t) (k + 1 + 1)), some (.d (stD (tab (mds t) (k + 1))))] := by
        rw [am]
        unfold tbO at sh ⊢
        generalize ((List.range (k + 1)).map fun i => Ow.d (stD (tab (mds t) i))) = os at sh al
        simp [sh, la, e5, vw, eq, al, sizeLine_eq]
      have r := ih (k + 1) n (some (.d (stD (tab (mds t) (k + 1))))) (by omega) (by omega) (by omega)
      rw [sSeq_eq] at r ⊢
      rw [whileN, c1, R.st_ok, if_pos rfl, c2]
      exact r
theorem levels_fin {t : Trn} (ok : TnOk t) {f4 f5 : List D → R Ow} (h4 : f4 [encTn t] = .ok (stO (tab (mds t) 0))) (h5 : ∀ n, f5 [encTn t, stD (tab (mds t) n)] = .ok (stO (tab (mds t) (n + 1)))) {N : Nat} (hN : N ≤ 100000) (h1 : tab (mds t) (N + 1) = tab (mds t) N) (h2 : ∀ i, i < N → tab (mds t) (i + 1) ≠ tab (mds t) i) (most : Int) (hm : 1 ≤ most) :
    finR (bLevels f4 f5 (envOf 2 [encTn t, .int most])) = .ok (tbO (mds t) (howMany N most)) := by
  have he : envOf 2 [encTn t, .int most] = [some (.d (encTn t)), some (.d (.int most)), none, none] := rfl
  rw [he]
  have vw := viewD_stO (tab (mds t) 0)
  have t1 : tbO (mds t) 1 = .l [.d (stD (tab (mds t) 0))] := rfl
  refine fin_step (env1 := [some (.d (encTn t)), some (.d (.int most)), some (tbO (mds t) 1), none]) (by
    rw [t1]
    generalize stO (tab (mds t) 0) = SO at h4 vw
    simp [h4, vw, sizeLine_eq]) ?_
  exact levels_loop ok h5 hN h1 h2 most hm N 0 1000000 none (by omega) (by omega) (by omega)
abbrev bWithin (f6 : List D → R Ow) : Ev → SR := (sRet (eCa gList (aCons (eBin gIx (eB (eB (aCons (eVar 0) (aCons (eVar 1) aNil)) f6) shD) (eB (eC (.int 1)) gNeg)) aNil)))
theorem within_fin {t : Trn} {f6 : List D → R Ow} {most : Int} {k : Nat} (h6 : f6 [encTn t, .int most] = .ok (tbO (mds t) (k + 1))) : finR (bWithin f6 (envOf 0 [encTn t, .int most])) = .ok (stO (tab (mds t) k)) := by
  have he : envOf 0 [encTn t, .int most] = [some (.d (encTn t)), some (.d (.int most))] := rfl
  rw [he]
  have sh := shD_tbO (mds t) (k + 1)
  have la := last_tb (mds t) k
  have gl : gList [stD (tab (mds t) k)] = some (stO (tab (mds t) k)) := by
    show some (Ow.l (((tab (mds t) k).map encS).map Ow.d)) = _
    rw [List.map_map]
    rfl
  generalize tbO (mds t) (k + 1) = TO at h6 sh
  simp [h6, sh, la, gl]
end
end Mir
set_option Elab.async false
set_option linter.all false
set_option maxRecDepth 100000
set_option maxHeartbeats 4000000
namespace Mir
open PySem PySem.Spec L2
noncomputable section
abbrev bMark2 (fd : List D → R Ow) : Ev → SR := (sSeq (sXSet 1 (xCallK fd 0 (xCons (xP (eBin gPow (eC (.int 10)) (eC (.int 59)))) xNil)))
    (sSeq (sIf (eB (eBin gEq (eBin gMod (eVar 1) (eC (.int 4))) (eC (.int 3))) asB)
    (sRet (eM (eBin gSub (eBin gMod (eBin gDiv (eVar 1) (eC (.int 4))) (eM (eBinO gAdd (eBin gMul (eC (.int 2)) (eBin gPow (eC (.int 10)) (eC (.int 57)))) (eC (.int 1))) viewD)) (eBin gPow (eC (.int 10)) (eC (.int 57)))) Ow.d))
    sSkip)
    (sRet (eM (eBin gDiv (eBin gMod (eBin gDiv (eVar 1) (eC (.int 4))) (eC (.int 3))) (eC (.int 2))) Ow.d))))
theorem mark2_fin {fd : List D → R Ow} (h : Draws fd) (dk : List Int) : ∃ z dk', finK (bMark2 fd (some (dkO dk) :: envOf 1 [])) = tells (.int z) dk' := by
  have p59 : gPow (.int 10) (.int 59) = some (.int (10 ^ 59)) := gPow10 59 (by decide)
  have p57 : gPow (.int 10) (.int 57) = some (.int (10 ^ 57)) := gPow10 57 (by decide)
  obtain ⟨T, hT⟩ : ∃ T : Int, T = 10 ^ 59 := ⟨_, rfl⟩
  obtain ⟨S, hS⟩ : ∃ S : Int, S = 10 ^ 57 := ⟨_, rfl⟩
  have hTp : 0 < T := by rw [hT]; decide
  have hSp : 0 < S := by rw [hS]; decide
  have hSb : S.natAbs < 2 ^ 250 := by rw [hS]; decide
  rw [← hT] at p59
  rw [← hS] at p57
  obtain ⟨r, dk', r0, r1, e⟩ := h dk T hTp
  have st : sXSet 1 (xCallK fd 0 (xCons (xP (eBin gPow (eC (.int 10)) (eC (.int 59)))) xNil)) (some (dkO dk) :: envOf 1 []) = .nx [some (dkO dk'), some (.d (.int r))] :=
    sXSet_of (env1 := [some (dkO dk'), none]) (xCallK_dk (env1 := [some (dkO dk), none]) (ds := [.int T]) (dk0 := dk) (dk := dk) rfl (by simp [p59]) rfl e) (by show 1 < 2; decide)
  have d4 : gDiv (.int r) (.int 4) = some (.int (r / 4)) := gDiv_small (by decide) (by decide)
  have m4 : gMod (.int r) (.int 4) = some (.int (r % 4)) := gMod_int (by decide)
  have m3 : gMod (.int (r / 4)) (.int 3) = some (.int (r / 4 % 3)) := gMod_int (by decide)
  have d2 : gDiv (.int (r / 4 % 3)) (.int 2) = some (.int (r / 4 % 3 / 2)) := gDiv_small (by decide) (by decide)
  have g2 : gMul (.int 2) (.int S) = some (.int (2 * S)) := gMul_small (by decide) hSb
  have mS : gMod (.int (r / 4)) (.int (2 * S + 1)) = some (.int (r / 4 % (2 * S + 1))) := gMod_int (by omega)
  by_cases c : r % 4 = 3
  · refine ⟨r / 4 % (2 * S + 1) - S, dk', finK_step st ?_⟩
    rw [← finK_dk _ dk' [some (.d (.int r))]]
    simp [m4, c, d4, g2, p57, mS]
  · refine ⟨r / 4 % 3 / 2, dk', finK_step st ?_⟩
    rw [← finK_dk _ dk' [some (.d (.int r))]]
    simp [m4, c, d4, m3, d2]
def encCl (c : Int × Int) : D := .tuple [.int c.1, .int c.2]
def caD (cs : List (Int × Int)) : D := .list (cs.map encCl)
theorem caD_ne (cs : List (Int × Int)) : gNe (caD cs) (.list []) = some (.bool (!cs.isEmpty)) := by
  have n0 : Nice (.list []) := ⟨rfl, by simp [PyData.depth, PyData.depthAll]⟩
  have n1 : Nice (caD cs) := by
    unfold caD
    refine ⟨?_, ?_⟩
    · rw [PyData.canLay0]
      exact canAll_of _ fun d hd => by
        obtain ⟨c, _, rfl⟩ := List.mem_map.mp hd
        simp [encCl, PyData.canLay0, PyData.canLayAll0]
    · rw [PyData.depth]
      have := depthAll_of (n := 1) (cs.map encCl) fun d hd => by
        obtain ⟨c, _, rfl⟩ := List.mem_map.mp hd
        simp [encCl, PyData.depth, PyData.depthAll]
      omega
  rw [gNe_nice n1 n0]
  unfold caD
  cases cs with
  | nil => rfl
  | cons c cs => simp [PyData.eqv, PyData.eqvAll]
theorem caD_len (cs : List (Int × Int)) : gLen [caD cs] = some (.d (.int (cs.length : Nat))) := by
  have : gLen [caD cs] = some (Ow.d (.int (cs.map encCl).length)) := rfl
  rw [this, List.length_map]
/-- a drawn call -/
theorem call_drawn {fd : List D → R Ow} (hd : Draws fd) {cs : List (Int × Int)} (hc : cs ≠ []) {j : Nat} {env : Ev} {dk : List Int} (h0 : env[0]? = some (some (dkO dk))) (hj : eVar j env = .ok (caD cs)) :
    ∃ c dk', c ∈ cs ∧ xBinO gAdd (xP (eTup (aCons (eC (.str "call")) aNil))) (xBin gIx (xP (eVar j)) (xCallK fd 0 (xCons (xP (eM (eCa gLen (aCons (eVar j) aNil)) viewD)) xNil))) env = .ok (encM (.call c.1 c.2), env.set 0 (some (dkO dk'))) := by
  have hl : 0 < cs.length := List.length_pos_iff.mpr hc
  obtain ⟨r, dk', r0, r1, e⟩ := hd dk (cs.length : Nat) (by omega)
  have gl := caD_len cs
  have x1 : xCallK fd 0 (xCons (xP (eM (eCa gLen (aCons (eVar j) aNil)) viewD)) xNil) env = .ok (.int r, env.set 0 (some (dkO dk'))) :=
    xCallK_dk (env1 := env) (ds := [.int (cs.length : Nat)]) (dk0 := dk) (dk := dk) h0 (by simp only [xCons_eq, xP_eq, xNil_eq, eM_eq, eCa_eq, aCons_eq, aNil_eq, hj, R.bind_ok, R.map_ok, gl, R.of_some, viewD_d]) h0 e
  obtain ⟨k, rfl⟩ : ∃ k : Nat, r = (k : Int) := ⟨r.toNat, by omega⟩
  have hk : k < cs.length := by omega
  have ix : gIx (caD cs) (.int (k : Nat)) = some (encCl cs[k]) := by
    show atI (cs.map encCl) _ = _
    exact atI_natD (by rw [List.getElem?_map, List.getElem?_eq_getElem hk]; rfl)
  refine ⟨cs[k], dk', List.getElem_mem hk, ?_⟩
  have gt : gAdd (.tuple [.str "call"]) (encCl cs[k]) = some (.d (encM (.call cs[k].1 cs[k].2))) := by
    unfold encCl
    rw [gAdd_tup (by simp [sizeLine_eq]), encM_call]
    rfl
  have e1 : xP (eTup (aCons (eC (.str "call")) aNil)) env = .ok (.tuple [.str "call"], env) := by simp [sizeLine_eq]
  rw [xBinO_eq, e1, R.bind_ok, xBin_eq]
  have e2 : xP (eVar j) env = .ok (caD cs, env) := by rw [xP_eq, hj]
  rw [e2]
  simp only [R.bind_ok, x1, ix, R.of_some, gt, viewD_d]
mutual
def thinM : Trm → Prop
  | .call _ _ => True
  | .put _ _ _ ps => ps.length ≤ 3 ∧ thinMs ps
def thinMs : List Trm → Prop
  | [] => True
  | p :: ps => thinM p ∧ thinMs ps
end
theorem thinMs_iff : ∀ ps : List Trm, thinMs ps ↔ ∀ p ∈ ps, thinM p
  | [] => by simp [thinMs]
  | p :: ps => by rw [thinMs, thinMs_iff ps]; simp
/-- two parts of one level less, or three of two levels less -/
def fitS : Nat → Trm → Prop
  | _, .call _ _ => True
  | 0, .put _ _ _ ps => ps = []
  | 1, .put _ _ _ ps => ps.length ≤ 3 ∧ ∀ p ∈ ps, fitS 0 p
  | n + 2, .put _ _ _ ps => (ps.length ≤ 2 ∧ ∀ p ∈ ps, fitS (n + 1) p) ∨ (ps.length ≤ 3 ∧ ∀ p ∈ ps, fitS n p)
theorem fitS_call (n : Nat) (m b : Int) : fitS n (.call m b) := by
  match n with
  | 0 => rw [fitS]; trivial
  | 1 => rw [fitS]; trivial
  | n + 2 => rw [fitS]; trivial
theorem fitS_leaf (n : Nat) (nm : Str) (kp : Bool) (ad : Int) : fitS n (.put nm kp ad []) := by
  match n with
  | 0 => rw [fitS]
  | 1 => rw [fitS]; exact ⟨by simp, fun p h => by cases h⟩
  | n + 2 => rw [fitS]; exact .inl ⟨by simp, fun p h => by cases h⟩
theorem fitS_parts {nm nm' : Str} {kp kp' : Bool} {ad ad' : Int} {ps ts : List Trm} (hl : ts.length = ps.length) (h : ∀ t ∈ ts, ∃ p ∈ ps, ∀ m, fitS m p → fitS m t) : ∀ m, fitS m (.put nm kp ad ps) → fitS m (.put nm' kp' ad' ts)
  | 0, q => by
    rw [fitS] at q ⊢
    subst q
    exact List.length_eq_zero_iff.mp hl
  | 1, q => by
    rw [fitS] at q ⊢
    exact ⟨by rw [hl]; exact q.1, fun t ht => by obtain ⟨p, hp, k⟩ := h t ht; exact k 0 (q.2 p hp)⟩
  | n + 2, q => by
    rw [fitS] at q ⊢
    rcases q with q | q
    · exact .inl ⟨by rw [hl]; exact q.1, fun t ht => by obtain ⟨p, hp, k⟩ := h t ht; exact k _ (q.2 p hp)⟩
    · exact .inr ⟨by rw [hl]; exact q.1, fun t ht => by obtain ⟨p, hp, k⟩ := h t ht; exact k _ (q.2 p hp)⟩
theorem sizeMs_le' {n m : Nat} : ∀ {bs : List Trm}, bs.length ≤ n → (∀ b ∈ bs, sizeM b ≤ m) → sizeMs bs ≤ n * m
  | [], _, _ => by rw [sizeMs]; omega
  | b :: bs, hl, h => by
    rw [sizeMs]
    obtain ⟨k, rfl⟩ : ∃ k, n = k + 1 := ⟨n - 1, by simp at hl; omega⟩
    have := sizeMs_le' (n := k) (m := m) (bs := bs) (by simp at hl; omega) fun c hc => h c (List.mem_cons_of_mem _ hc)
    have := h b List.mem_cons_self
    rw [Nat.add_mul]
    omega
theorem fitS_0 {t : Trm} (h : fitS 0 t) : sizeM t ≤ 1 := by
  cases t with
  | call m b => rw [sizeM]; omega
  | put nm kp ad ps => rw [fitS] at h; rw [h, sizeM, sizeMs]; omega
theorem fitS_1 {t : Trm} (h : fitS 1 t) : sizeM t ≤ 4 := by
  cases t with
  | call m b => rw [sizeM]; omega
  | put nm kp ad ps =>
    rw [fitS] at h
    have := sizeMs_le' h.1 fun p hp => fitS_0 (h.2 p hp)
    rw [sizeM]
    omega
theorem fitS_2 {t : Trm} (h : fitS 2 t) : sizeM t ≤ 9 := by
  cases t with
  | call m b => rw [sizeM]; omega
  | put nm kp ad ps =>
    rw [fitS] at h
    rw [sizeM]
    rcases h with h | h
    · have := sizeMs_le' h.1 fun p hp => fitS_1 (h.2 p hp)
      omega
    · have := sizeMs_le' h.1 fun p hp => fitS_0 (h.2 p hp)
      omega
def TermIn (cs : List (Int × Int)) (n : Nat) (t : Trm) : Prop := okM t ∧ levM t ≤ n + 1 ∧ fitS n t ∧ (∀ c ∈ callsM t, c ∈ cs) ∧ thinM t
/-- a term changed of another -/
def TermC (cs : List (Int × Int)) (n : Nat) (u t : Trm) : Prop := okM t ∧ levM t ≤ n + 1 ∧ (∀ m, fitS m u → fitS m t) ∧ (∀ c ∈ callsM t, c ∈ cs) ∧ thinM t
theorem levMs_of {n : Nat} : ∀ {bs : List Trm}, (∀ b ∈ bs, levM b ≤ n) → levMs bs ≤ n
  | [], _ => by rw [levMs]; omega
  | b :: bs, h => by
    rw [levMs]
    have := h b List.mem_cons_self
    have := levMs_of fun c hc => h c (List.mem_cons_of_mem _ hc)
    omega
theorem callsMs_in {cs : List (Int × Int)} : ∀ {bs : List Trm}, (∀ b ∈ bs, ∀ c ∈ callsM b, c ∈ cs) → ∀ c ∈ callsMs bs, c ∈ cs
  | [], _, c, h => by rw [callsMs] at h; cases h
  | b :: bs, h, c, hc => by
    rw [callsMs] at hc
    rcases List.mem_append.mp hc with hc | hc
    · exact h b List.mem_cons_self c hc
    · exact callsMs_in (fun x hx => h x (List.mem_cons_of_mem _ hx)) c hc
/-- a name drawn: 3 and one of three more -/
theorem name_drawn {fd fn : List D → R Ow} (hd : Draws fd) {code : Int} (hn : Names fn code 900) {env : Ev} {dk : List Int} (h0 : env[0]? = some (some (dkO dk))) (h1 : eVar 1 env = .ok (.int code)) (h1' : ∀ dk', eVar 1 (env.set 0 (some (dkO dk'))) = .ok (.int code)) :
    ∃ (w : List Nat) (dk' : List Int), (∀ c ∈ w, isL c = true) ∧ xCall fn (xCons (xP (eVar 1)) (xCons (xBin (gI0 fun i j => i + j) (xP (eC (.int 3))) (xCallK fd 0 (xCons (xP (eC (.int 3))) xNil))) xNil)) env = .ok (.str (tx w), env.set 0 (some (dkO dk'))) := by
  obtain ⟨r, dk', r0, r1, e⟩ := hd dk 3 (by decide)
  obtain ⟨w, e2, hw⟩ := hn (3 + r) (by omega) (by omega)
  refine ⟨w, dk', hw, ?_⟩
  have x1 : xCallK fd 0 (xCons (xP (eC (.int 3))) xNil) env = .ok (.int r, env.set 0 (some (dkO dk'))) := xCallK_dk (env1 := env) (ds := [.int 3]) (dk0 := dk) (dk := dk) h0 (by simp) h0 e
  have g0 : (gI0 fun i j => i + j) (.int 3) (.int r) = some (.int (3 + r)) := rfl
  rw [xCall_eq, xCons_eq]
  have ep : xP (eVar 1) env = .ok (.int code, env) := by rw [xP_eq, h1]
  rw [ep]
  simp only [R.bind_ok, xCons_eq, xBin_eq, xP_eq, eC_eq, x1, g0, R.of_some, xNil_eq, e2, viewD_d]
abbrev bTerm (fd fm fn fr : List D → R Ow) : Ev → SR := (sSeq (sXSet 4 (xCallK fd 0 (xCons (xP (eC (.int 8))) xNil)))
    (sSeq (sIf (tAndE (eB (eBin gGt (eVar 4) (eC (.int 4))) asB) (eB (eBin gNe (eVar 2) (eM (eLst aNil) viewD)) asB))
    (sXRet (xBinO gAdd (xP (eTup (aCons (eC (.str "call")) aNil))) (xBin gIx (xP (eVar 2)) (xCallK fd 0 (xCons (xP (eM (eCa gLen (aCons (eVar 2) aNil)) viewD)) xNil)))))
    sSkip)
    (sSeq (sSet 5 (eLst aNil))
    (sSeq (sIf (eB (eBin gGt (eVar 3) (eC (.int 0))) asB)
    (sSeq (sXSet 6 (xCallK fd 0 (xCons (xP (eC (.int 4))) xNil)))
    (sFor (eB (aCons (eVar 6) aNil) rg1) (gtName 7)
    (sXApp 5 (xCallK fr 0 (xCons (xP (eVar 1)) (xCons (xP (eVar 2)) (xCons (xP (eBin gSub (eBin gSub (eVar 3) (eC (.int 1))) (eBin gDiv (eVar 6) (eC (.int 3))))) xNil)))))))
    sSkip)
    (sSeq (sXSet 8 (xCall fn (xCons (xP (eVar 1)) (xCons (xBin (gI0 fun i j => i + j) (xP (eC (.int 3))) (xCallK fd 0 (xCons (xP (eC (.int 3))) xNil))) xNil))))
    (sXRet (xTup (xCons (xP (eC (.str "put"))) (xCons (xP (eVar 8)) (xCons (xP (eBin gEq (eVar 4) (eC (.int 0)))) (xCons (xCallK fm 0 xNil) (xCons (xP (eM (eCa gTuple (aCons (eB (eVarO 5) shD) aNil)) viewD)) xNil))))))))))))
def trO (ps : List Trm) : Ow := .l (ps.map fun p => .d (encM p))
theorem trO_data (ps : List Trm) : trO ps = .l ((ps.map encM).map Ow.d) := by unfold trO; rw [List.map_map]; rfl
theorem shD_trO (ps : List Trm) : shD (trO ps) = .ok (.list (ps.map encM)) := unDs_of encM ps
theorem term_fin {fd fm fn fr : List D → R Ow} (hd : Draws fd) (hm : Marks fm) (code : Int) (hn : Names fn code 900) (cs : List (Int × Int)) (deep : Int) (n : Nat) (hn0 : deep ≤ n) (hn9 : n ≤ 100)
    (hr : ∀ (e : Int) (m : Nat), e < deep → m < n → e ≤ (m : Int) → ∀ dk, ∃ t dk', TermIn cs m t ∧ fr (dkD dk :: [.int code, caD cs, .int e]) = tells (encM t) dk') (dk : List Int) :
    ∃ t dk', TermIn cs n t ∧ finK (bTerm fd fm fn fr (some (dkO dk) :: envOf 5 [.int code, caD cs, .int deep])) = tells (encM t) dk' := by
  obtain ⟨CA, hCA⟩ : ∃ d, d = caD cs := ⟨_, rfl⟩
  have ne := caD_ne cs
  rw [← hCA] at ne hr ⊢
  have he : (some (dkO dk) :: envOf 5 [.int code, CA, .int deep]) = [some (dkO dk), some (.d (.int code)), some (.d CA), some (.d (.int deep)), none, none, none, none, none] := rfl
  rw [he]
  obtain ⟨r, dk1, r0, r1, e1⟩ := hd dk 8 (by decide)
  have s1 : sXSet 4 (xCallK fd 0 (xCons (xP (eC (.int 8))) xNil)) [some (dkO dk), some (.d (.int code)), some (.d CA), some (.d (.int deep)), none, none, none, none, none] = .nx [some (dkO dk1), some (.d (.int code)), some (.d CA), some (.d (.int deep)), some (.d (.int r)), none, none, none, none] :=
    sXSet_of (env1 := [some (dkO dk1), some (.d (.int code)), some (.d CA), some (.d (.int deep)), none, none, none, none, none]) (xCallK_dk (env1 := [some (dkO dk), some (.d (.int code)), some (.d CA), some (.d (.int deep)), none, none, none, none, none]) (ds := [.int 8]) (dk0 := dk) (dk := dk) rfl (by simp) rfl e1) (by show 4 < 9; decide)
  have vn : viewD (.l []) = .list [] := by simp
  by_cases c1 : 4 < r ∧ cs ≠ []
  · obtain ⟨c, dk2, hc, e2⟩ := call_drawn hd c1.2 (j := 2) (env := [some (dkO dk1), some (.d (.int code)), some (.d CA), some (.d (.int deep)), some (.d (.int r)), none, none, none, none]) (dk := dk1) rfl (by rw [hCA]; rfl)
    refine ⟨.call c.1 c.2, dk2, ⟨by rw [okM]; trivial, by rw [levM]; omega, fitS_call _ _ _, fun x hx => ?_, by rw [thinM]; trivial⟩, finK_step s1 ?_⟩
    · rw [callsM, List.mem_singleton] at hx
      subst hx
      exact hc
    · rw [← finK_dk _ dk2 [some (.d (.int code)), some (.d CA), some (.d (.int deep)), some (.d (.int r)), none, none, none, none]]
      congr 1
      have emp : cs.isEmpty = false := by
        cases cs with
        | nil => exact absurd rfl c1.2
        | cons => rfl
      rw [emp] at ne
      have ct : (tAndE (eB (eBin gGt (eVar 4) (eC (.int 4))) asB) (eB (eBin gNe (eVar 2) (eM (eLst aNil) viewD)) asB)) [some (dkO dk1), some (.d (.int code)), some (.d CA), some (.d (.int deep)), some (.d (.int r)), none, none, none, none] = .ok true := by
        simp [c1.1, ne, vn, sizeLine_eq]
      rw [sSeq_eq, sIf_eq, ct, R.st_ok, if_pos rfl, sXRet_eq, e2]
      rfl
  · have s2 : (sIf (tAndE (eB (eBin gGt (eVar 4) (eC (.int 4))) asB) (eB (eBin gNe (eVar 2) (eM (eLst aNil) viewD)) asB))
    (sXRet (xBinO gAdd (xP (eTup (aCons (eC (.str "call")) aNil))) (xBin gIx (xP (eVar 2)) (xCallK fd 0 (xCons (xP (eM (eCa gLen (aCons (eVar 2) aNil)) viewD)) xNil)))))
    sSkip) [some (dkO dk1), some (.d (.int code)), some (.d CA), some (.d (.int deep)), some (.d (.int r)), none, none, none, none] = .nx [some (dkO dk1), some (.d (.int code)), some (.d CA), some (.d (.int deep)), some (.d (.int r)), none, none, none, none] := by
      by_cases c2 : 4 < r
      · have emp : cs.isEmpty = true := by
          cases cs with
          | nil => rfl
          | cons => exact absurd ⟨c2, by simp⟩ c1
        rw [emp] at ne
        simp [c2, ne, vn, sizeLine_eq]
      · simp [c2]
    have s3 : sSet 5 (eLst aNil) [some (dkO dk1), some (.d (.int code)), some (.d CA), some (.d (.int deep)), some (.d (.int r)), none, none, none, none] = .nx [some (dkO dk1), some (.d (.int code)), some (.d CA), some (.d (.int deep)), some (.d (.int r)), some (trO []), none, none, none] := by
      have : trO [] = .l [] := rfl
      simp [sizeLine_eq, this]
    -- the parts
    obtain ⟨ps, dk2, x6, x7, hpl, hps, s4⟩ : ∃ (ps : List Trm) (dk2 : List Int) (x6 x7 : Option Ow), ps.length ≤ 3 ∧ (ps = [] ∨ (0 < n ∧ ∃ m, m < n ∧ ((ps.length ≤ 2 ∧ m = n - 1) ∨ m = n - 2) ∧ ∀ p ∈ ps, TermIn cs m p)) ∧ (sIf (eB (eBin gGt (eVar 3) (eC (.int 0))) asB)
    (sSeq (sXSet 6 (xCallK fd 0 (xCons (xP (eC (.int 4))) xNil)))
    (sFor (eB (aCons (eVar 6) aNil) rg1) (gtName 7)
    (sXApp 5 (xCallK fr 0 (xCons (xP (eVar 1)) (xCons (xP (eVar 2)) (xCons (xP (eBin gSub (eBin gSub (eVar 3) (eC (.int 1))) (eBin gDiv (eVar 6) (eC (.int 3))))) xNil)))))))
    sSkip) [some (dkO dk1), some (.d (.int code)), some (.d CA), some (.d (.int deep)), some (.d (.int r)), some (trO []), none, none, none] = .nx [some (dkO dk2), some (.d (.int code)), some (.d CA), some (.d (.int deep)), some (.d (.int r)), some (trO ps), x6, x7, none] := by
      by_cases z : 0 < deep
      · obtain ⟨c, dk2, k0, k1, e2⟩ := hd dk1 4 (by decide)
        have n0 : 0 < n := by omega
        have st : sXSet 6 (xCallK fd 0 (xCons (xP (eC (.int 4))) xNil)) [some (dkO dk1), some (.d (.int code)), some (.d CA), some (.d (.int deep)), some (.d (.int r)), some (trO []), none, none, none] = .nx [some (dkO dk2), some (.d (.int code)), some (.d CA), some (.d (.int deep)), some (.d (.int r)), some (trO []), some (.d (.int c)), none, none] :=
          sXSet_of (env1 := [some (dkO dk2), some (.d (.int code)), some (.d CA), some (.d (.int deep)), some (.d (.int r)), some (trO []), none, none, none]) (xCallK_dk (env1 := [some (dkO dk1), some (.d (.int code)), some (.d CA), some (.d (.int deep)), some (.d (.int r)), some (trO []), none, none, none]) (ds := [.int 4]) (dk0 := dk1) (dk := dk1) rfl (by simp) rfl e2) (by show 6 < 9; decide)
        obtain ⟨cn, rfl⟩ : ∃ cn : Nat, c = (cn : Int) := ⟨c.toNat, by omega⟩
        have d3 : gDiv (.int (cn : Int)) (.int 3) = some (.int ((cn : Int) / 3)) := gDiv_small (by decide) (by decide)
        obtain ⟨m, hm1, hm2, hm3⟩ : ∃ m, m < n ∧ ((cn ≤ 2 ∧ m = n - 1) ∨ (cn = 3 ∧ m = n - 2)) ∧ deep - 1 - (cn : Int) / 3 ≤ (m : Int) := by
          by_cases c3 : cn = 3
          · exact ⟨n - 2, by omega, .inr ⟨c3, rfl⟩, by subst c3; omega⟩
          · exact ⟨n - 1, by omega, .inl ⟨by omega, rfl⟩, by omega⟩
        have rg : rg1 [.int (cn : Nat)] = .ok (rangeD 0 cn) := by
          have : rg1 [.int (cn : Nat)] = .ok (rangeD 0 ((cn : Nat) : Int).toNat) := guard_ok (by omega)
          rw [this, Int.toNat_natCast]
        obtain ⟨env', lp, ps, dk3, x7, e3, l3, h3⟩ := forL_ind (g := gtName 7) (f := (sXApp 5 (xCallK fr 0 (xCons (xP (eVar 1)) (xCons (xP (eVar 2)) (xCons (xP (eBin gSub (eBin gSub (eVar 3) (eC (.int 1))) (eBin gDiv (eVar 6) (eC (.int 3))))) xNil)))))) (rangeD 0 cn)
          (fun i env => ∃ (ps : List Trm) (dk3 : List Int) (x7 : Option Ow), env = [some (dkO dk3), some (.d (.int code)), some (.d CA), some (.d (.int deep)), some (.d (.int r)), some (trO ps), some (.d (.int (cn : Nat))), x7, none] ∧ ps.length = i ∧ ∀ p ∈ ps, TermIn cs m p) (fun i d env hdd hI => by
            obtain ⟨ps, dk3, x7, he, hl, hp⟩ := hI
            obtain ⟨hi, ed⟩ := rangeD_at hdd
            subst ed he
            obtain ⟨t, dk4, ht, e4⟩ := hr (deep - 1 - (cn : Int) / 3) m (by omega) hm1 hm3 dk3
            refine ⟨_, rfl, [some (dkO dk4), some (.d (.int code)), some (.d CA), some (.d (.int deep)), some (.d (.int r)), some (trO (ps ++ [t])), some (.d (.int (cn : Nat))), some (.d (.int (0 + (i : Nat)))), none], .inl ?_, ps ++ [t], dk4, _, rfl, by simp [hl], fun p hp' => ?_⟩
            · have xc : xCallK fr 0 (xCons (xP (eVar 1)) (xCons (xP (eVar 2)) (xCons (xP (eBin gSub (eBin gSub (eVar 3) (eC (.int 1))) (eBin gDiv (eVar 6) (eC (.int 3))))) xNil))) [some (dkO dk3), some (.d (.int code)), some (.d CA), some (.d (.int deep)), some (.d (.int r)), some (trO ps), some (.d (.int (cn : Nat))), some (.d (.int (0 + (i : Nat)))), none] = .ok (encM t, [some (dkO dk4), some (.d (.int code)), some (.d CA), some (.d (.int deep)), some (.d (.int r)), some (trO ps), some (.d (.int (cn : Nat))), some (.d (.int (0 + (i : Nat)))), none]) :=
                xCallK_dk (env1 := [some (dkO dk3), some (.d (.int code)), some (.d CA), some (.d (.int deep)), some (.d (.int r)), some (trO ps), some (.d (.int (cn : Nat))), some (.d (.int (0 + (i : Nat)))), none]) (ds := [.int code, CA, .int (deep - 1 - (cn : Int) / 3)]) (dk0 := dk3) (dk := dk3) rfl (by simp [d3]) rfl e4
              have := sXApp_of (i := 5) (dk0 := ps.map encM) (dk := ps.map encM) (by rw [← trO_data]; rfl) xc (by rw [← trO_data]; rfl) (by rw [List.length_map, sizeLine_eq]; omega)
              show sXApp 5 _ [some (dkO dk3), some (.d (.int code)), some (.d CA), some (.d (.int deep)), some (.d (.int r)), some (trO ps), some (.d (.int (cn : Nat))), some (.d (.int (0 + (i : Nat)))), none] = _
              rw [this, trO_data (ps ++ [t]), show (ps ++ [t]).map encM = ps.map encM ++ [encM t] from by simp]
              rfl
            · rcases List.mem_append.mp hp' with h | h
              · exact hp p h
              · rw [List.mem_singleton] at h
                subst h
                exact ht) [some (dkO dk2), some (.d (.int code)), some (.d CA), some (.d (.int deep)), some (.d (.int r)), some (trO []), some (.d (.int (cn : Nat))), none, none] ⟨[], dk2, none, rfl, rfl, fun p h => by cases h⟩
        subst e3
        have rl : (rangeD 0 cn).length = cn := by simp [rangeD]
        refine ⟨ps, dk3, some (.d (.int (cn : Nat))), x7, by omega, .inr ⟨n0, m, hm1, by omega, h3⟩, ?_⟩
        rw [sIf_eq]
        have ct : (eB (eBin gGt (eVar 3) (eC (.int 0))) asB) [some (dkO dk1), some (.d (.int code)), some (.d CA), some (.d (.int deep)), some (.d (.int r)), some (trO []), none, none, none] = .ok true := by simp [z]
        rw [ct, R.st_ok, if_pos rfl]
        refine seq_nx st ?_
        rw [sFor_eq]
        have e5 : (eB (aCons (eVar 6) aNil) rg1) [some (dkO dk2), some (.d (.int code)), some (.d CA), some (.d (.int deep)), some (.d (.int r)), some (trO []), some (.d (.int (cn : Nat))), none, none] = .ok (rangeD 0 cn) := by simp [rg]
        rw [e5, R.st_ok]
        exact lp
      · refine ⟨[], dk1, none, none, by simp, .inl rfl, ?_⟩
        have : ¬ 0 < deep := z
        simp [this]
    obtain ⟨w, dk3, hw, e5⟩ := name_drawn hd hn (env := [some (dkO dk2), some (.d (.int code)), some (.d CA), some (.d (.int deep)), some (.d (.int r)), some (trO ps), x6, x7, none]) (dk := dk2) rfl rfl (fun _ => rfl)
    have s5 := sXSet_of (i := 8) e5 (by show 8 < 9; decide)
    obtain ⟨z, dk4, e6⟩ := hm dk3
    have x6' : xCallK fm 0 xNil [some (dkO dk3), some (.d (.int code)), some (.d CA), some (.d (.int deep)), some (.d (.int r)), some (trO ps), x6, x7, some (.d (.str (tx w)))] = .ok (.int z, [some (dkO dk4), some (.d (.int code)), some (.d CA), some (.d (.int deep)), some (.d (.int r)), some (trO ps), x6, x7, some (.d (.str (tx w)))]) :=
      xCallK_dk (env1 := [some (dkO dk3), some (.d (.int code)), some (.d CA), some (.d (.int deep)), some (.d (.int r)), some (trO ps), x6, x7, some (.d (.str (tx w)))]) (ds := []) (dk0 := dk3) (dk := dk3) rfl rfl rfl e6
    have sh := shD_trO ps
    refine ⟨.put (tx w) (r == 0) z ps, dk4, ?_, finK_step s1 (finK_step s2 (finK_step s3 (finK_step s4 (finK_step s5 ?_))))⟩
    · have wok : PyData.strOk (tx w) = true := strOk_tx fun x hx => isL_small (hw x hx)
      rcases hps with rfl | ⟨n0, m, hm1, hm2, hp⟩
      · refine ⟨by rw [okM, okMs]; exact ⟨wok, by simp, trivial⟩, by rw [levM, levMs]; omega, fitS_leaf _ _ _ _, fun c hc => ?_, by rw [thinM, thinMs]; exact ⟨by simp, trivial⟩⟩
        rw [callsM, callsMs] at hc
        cases hc
      · refine ⟨by rw [okM, okMs_iff]; exact ⟨wok, by omega, fun p h => (hp p h).1⟩, ?_, ?_, fun c hc => ?_, by rw [thinM, thinMs_iff]; exact ⟨hpl, fun p h => (hp p h).2.2.2.2⟩⟩
        · rw [levM]
          have := levMs_of (n := n) (bs := ps) fun p h => by have := (hp p h).2.1; omega
          omega
        · match n, n0, hm1, hm2, hp with
          | 1, _, h1, h2, hp =>
            rw [fitS]
            obtain rfl : m = 0 := by omega
            exact ⟨hpl, fun p h => (hp p h).2.2.1⟩
          | n + 2, _, h1, h2, hp =>
            rw [fitS]
            rcases h2 with ⟨h2, h3⟩ | h3
            · obtain rfl : m = n + 1 := by omega
              exact .inl ⟨h2, fun p h => (hp p h).2.2.1⟩
            · obtain rfl : m = n := by omega
              exact .inr ⟨hpl, fun p h => (hp p h).2.2.1⟩
        · rw [callsM] at hc
          exact callsMs_in (fun b hb => (hp b hb).2.2.2.1) c hc
    · rw [← finK_dk _ dk4 [some (.d (.int code)), some (.d CA), some (.d (.int deep)), some (.d (.int r)), some (trO ps), x6, x7, some (.d (.str (tx w)))]]
      congr 1
      rw [encM_put]
      have es : List.set [some (dkO dk2), some (Ow.d (.int code)), some (.d CA), some (.d (.int deep)), some (.d (.int r)), some (trO ps), x6, x7, none] 0 (some (dkO dk3)) = [some (dkO dk3), some (.d (.int code)), some (.d CA), some (.d (.int deep)), some (.d (.int r)), some (trO ps), x6, x7, none] := rfl
      rw [es]
      show sXRet _ [some (dkO dk3), some (.d (.int code)), some (.d CA), some (.d (.int deep)), some (.d (.int r)), some (trO ps), x6, x7, some (.d (.str (tx w)))] = _
      rw [sXRet_eq]
      have et : xTup (xCons (xP (eC (.str "put"))) (xCons (xP (eVar 8)) (xCons (xP (eBin gEq (eVar 4) (eC (.int 0)))) (xCons (xCallK fm 0 xNil) (xCons (xP (eM (eCa gTuple (aCons (eB (eVarO 5) shD) aNil)) viewD)) xNil))))) [some (dkO dk3), some (.d (.int code)), some (.d CA), some (.d (.int deep)), some (.d (.int r)), some (trO ps), x6, x7, some (.d (.str (tx w)))] = .ok (.tuple [.str "put", .str (tx w), .bool (r == 0), .int z, .tuple (ps.map encM)], [some (dkO dk4), some (.d (.int code)), some (.d CA), some (.d (.int deep)), some (.d (.int r)), some (trO ps), x6, x7, some (.d (.str (tx w)))]) := by
        generalize (ps.map encM) = PS at sh
        unfold trO at sh x6' ⊢
        generalize (ps.map fun p => Ow.d (encM p)) = os at sh x6'
        simp [x6', sh, sizeLine_eq]
      rw [et]
end
end Mir
set_option Elab.async false
set_option linter.all false
set_option maxRecDepth 100000
set_option maxHeartbeats 4000000
namespace Mir
open PySem PySem.Spec L2
theorem perm_map_inv {α β : Type} {f : α → β} {ds es : List β} (h : ds.Perm es) : ∀ xs : List α, es = xs.map f → ∃ ys : List α, ys.Perm xs ∧ ds = ys.map f := by
  induction h with
  | nil => intro xs e; exact ⟨[], by cases xs with | nil => exact .refl _ | cons => simp at e, rfl⟩
  | cons x h ih =>
    intro xs e
    cases xs with
    | nil => simp at e
    | cons a xs =>
      rw [List.map_cons] at e
      injection e with e1 e2
      obtain ⟨ys, h1, h2⟩ := ih xs e2
      exact ⟨a :: ys, h1.cons a, by rw [e1, h2]; rfl⟩
  | swap x y l =>
    intro xs e
    match xs, e with
    | a :: b :: xs, e =>
      simp only [List.map_cons] at e
      injection e with e1 e2
      injection e2 with e2 e3
      exact ⟨b :: a :: xs, .swap a b xs, by rw [e1, e2, e3]; rfl⟩
    | [_], e => simp at e
    | [], e => simp at e
  | trans h1 h2 ih1 ih2 =>
    intro xs e
    obtain ⟨ys, a, b⟩ := ih2 xs e
    obtain ⟨zs, c, d⟩ := ih1 ys b
    exact ⟨zs, c.trans a, d⟩
theorem alike_strs : ∀ xs ys : List Str, PySem.W.alikeAll (xs.map PyData.str) (ys.map PyData.str) = true
  | [], ys => by cases ys <;> rfl
  | x :: xs, [] => rfl
  | x :: xs, y :: ys => by
    rw [List.map_cons, List.map_cons, PySem.W.alikeAll, alike_strs xs ys]
    rfl
theorem sorted_rows (rows : List Rw) : ∃ rows' : List Rw, rows'.Perm rows ∧ gSorted [.list (rows.map encRw)] = some (.l (rows'.map fun r => .d (encRw r))) := by
  obtain ⟨rows', h1, h2⟩ := perm_map_inv (List.mergeSort_perm (rows.map encRw) (PySem.W.dataLe false id)) rows rfl
  refine ⟨rows', h1, ?_⟩
  have ok : sortOk (rows.map encRw) = true := by
    unfold sortOk
    simp only [Bool.and_eq_true, Bool.or_eq_true, List.all_eq_true, decide_eq_true_eq, List.mem_map]
    refine ⟨⟨?_, .inl ?_⟩, ?_⟩
    · rintro d ⟨r, _, rfl⟩ e ⟨s, _, rfl⟩
      have := alike_strs r.br s.br
      simp [encRw, PySem.W.alike, PySem.W.alikeAll, this]
    · rintro d ⟨r, _, rfl⟩
      rfl
    · rintro d ⟨r, _, rfl⟩
      have := depthAll_of (n := 0) (r.br.map PyData.str) fun d hd => by
        obtain ⟨z, hz, rfl⟩ := List.mem_map.mp hd
        simp [PyData.depth]
      simp only [encRw, PyData.depth, PyData.depthAll]
      omega
  unfold gSorted
  have e : sortedD (rows.map encRw) = rows'.map encRw := h2
  simp only [ok, if_true, e, List.map_map]
  rfl
noncomputable section
abbrev bChanged (fd fm fn fr : List D → R Ow) : Ev → SR := (sSeq (sXSet 4 (xCallK fd 0 (xCons (xP (eC (.int 7))) xNil)))
    (sSeq (sIf (tAndE (eB (eBin gEq (eVar 4) (eC (.int 0))) asB) (eB (eBin gNe (eVar 3) (eM (eLst aNil) viewD)) asB))
    (sXRet (xBinO gAdd (xP (eTup (aCons (eC (.str "call")) aNil))) (xBin gIx (xP (eVar 3)) (xCallK fd 0 (xCons (xP (eM (eCa gLen (aCons (eVar 3) aNil)) viewD)) xNil)))))
    sSkip)
    (sSeq (sIf (eB (eBin gEq (eVar 4) (eC (.int 1))) asB)
    (sSeq (sXSet 5 (xCall fn (xCons (xP (eVar 1)) (xCons (xBin (gI0 fun i j => i + j) (xP (eC (.int 3))) (xCallK fd 0 (xCons (xP (eC (.int 3))) xNil))) xNil))))
    (sXRet (xTup (xCons (xP (eC (.str "put"))) (xCons (xP (eVar 5)) (xCons (xP (eC (.bool false))) (xCons (xCallK fm 0 xNil) (xCons (xP (eTup aNil)) xNil))))))))
    sSkip)
    (sSeq (sXSet 6 (xLc (eB (eBin gIx (eVar 2) (eC (.int 4))) itD) (gtName 7) (xCallK fr 0 (xCons (xP (eVar 1)) (xCons (xP (eVar 7)) (xCons (xP (eVar 3)) xNil)))) [7]))
    (sRet (eM (eTup (aCons (eC (.str "put")) (aCons (eBin gIx (eVar 2) (eC (.int 1))) (aCons (eAnd (eBin gIx (eVar 2) (eC (.int 2))) (eBin gLt (eVar 4) (eC (.int 5)))) (aCons (eBin gIx (eVar 2) (eC (.int 3))) (aCons (eM (eCa gTuple (aCons (eVar 6) aNil)) viewD) aNil)))))) Ow.d))))))
theorem changed_fin {fd fm fn fr : List D → R Ow} (hd : Draws fd) (hm : Marks fm) (code : Int) (hn : Names fn code 900) (cs : List (Int × Int)) (n : Nat) (nm : Str) (kp : Bool) (ad : Int) (ps : List Trm) (hnm : PyData.strOk nm = true) (hpl : ps.length ≤ 3)
    (hr : ∀ p ∈ ps, 0 < n ∧ ∀ dk, ∃ t dk', TermC cs (n - 1) p t ∧ fr (dkD dk :: [.int code, encM p, caD cs]) = tells (encM t) dk') (dk : List Int) :
    ∃ t dk', TermC cs n (.put nm kp ad ps) t ∧ finK (bChanged fd fm fn fr (some (dkO dk) :: envOf 4 [.int code, encM (.put nm kp ad ps), caD cs])) = tells (encM t) dk' := by
  obtain ⟨CA, hCA⟩ : ∃ d, d = caD cs := ⟨_, rfl⟩
  have ne := caD_ne cs
  rw [← hCA] at ne hr ⊢
  obtain ⟨EM, hEM⟩ : ∃ d, d = encM (.put nm kp ad ps) := ⟨_, rfl⟩
  have i1 : gIx EM (.int 1) = some (.str nm) := by rw [hEM]; exact m_ix1 nm kp ad ps
  have i2 : gIx EM (.int 2) = some (.bool kp) := by rw [hEM]; exact m_ix2 nm kp ad ps
  have i3 : gIx EM (.int 3) = some (.int ad) := by rw [hEM]; exact m_ix3 nm kp ad ps
  have i4 : gIx EM (.int 4) = some (.tuple (ps.map encM)) := by rw [hEM]; exact m_ix4 nm kp ad ps
  rw [← hEM]
  have he : (some (dkO dk) :: envOf 4 [.int code, EM, CA]) = [some (dkO dk), some (.d (.int code)), some (.d EM), some (.d CA), none, none, none, none] := rfl
  rw [he]
  obtain ⟨r, dk1, r0, r1, e1⟩ := hd dk 7 (by decide)
  have s1 : sXSet 4 (xCallK fd 0 (xCons (xP (eC (.int 7))) xNil)) [some (dkO dk), some (.d (.int code)), some (.d EM), some (.d CA), none, none, none, none] = .nx [some (dkO dk1), some (.d (.int code)), some (.d EM), some (.d CA), some (.d (.int r)), none, none, none] :=
    sXSet_of (env1 := [some (dkO dk1), some (.d (.int code)), some (.d EM), some (.d CA), none, none, none, none]) (xCallK_dk (env1 := [some (dkO dk), some (.d (.int code)), some (.d EM), some (.d CA), none, none, none, none]) (ds := [.int 7]) (dk0 := dk) (dk := dk) rfl (by simp) rfl e1) (by show 4 < 8; decide)
  have vn : viewD (.l []) = .list [] := by simp
  by_cases c1 : r = 0 ∧ cs ≠ []
  · obtain ⟨c, dk2, hc, e2⟩ := call_drawn hd c1.2 (j := 3) (env := [some (dkO dk1), some (.d (.int code)), some (.d EM), some (.d CA), some (.d (.int r)), none, none, none]) (dk := dk1) rfl (by rw [hCA]; rfl)
    refine ⟨.call c.1 c.2, dk2, ⟨by rw [okM]; trivial, by rw [levM]; omega, fun _ _ => fitS_call _ _ _, fun x hx => ?_, by rw [thinM]; trivial⟩, finK_step s1 ?_⟩
    · rw [callsM, List.mem_singleton] at hx
      subst hx
      exact hc
    · rw [← finK_dk _ dk2 [some (.d (.int code)), some (.d EM), some (.d CA), some (.d (.int r)), none, none, none]]
      congr 1
      have emp : cs.isEmpty = false := by
        cases cs with
        | nil => exact absurd rfl c1.2
        | cons => rfl
      rw [emp] at ne
      have ct : (tAndE (eB (eBin gEq (eVar 4) (eC (.int 0))) asB) (eB (eBin gNe (eVar 3) (eM (eLst aNil) viewD)) asB)) [some (dkO dk1), some (.d (.int code)), some (.d EM), some (.d CA), some (.d (.int r)), none, none, none] = .ok true := by
        simp [c1.1, ne, vn, sizeLine_eq]
      rw [sSeq_eq, sIf_eq, ct, R.st_ok, if_pos rfl, sXRet_eq, e2]
      rfl
  · have s2 : (sIf (tAndE (eB (eBin gEq (eVar 4) (eC (.int 0))) asB) (eB (eBin gNe (eVar 3) (eM (eLst aNil) viewD)) asB))
    (sXRet (xBinO gAdd (xP (eTup (aCons (eC (.str "call")) aNil))) (xBin gIx (xP (eVar 3)) (xCallK fd 0 (xCons (xP (eM (eCa gLen (aCons (eVar 3) aNil)) viewD)) xNil)))))
    sSkip) [some (dkO dk1), some (.d (.int code)), some (.d EM), some (.d CA), some (.d (.int r)), none, none, none] = .nx [some (dkO dk1), some (.d (.int code)), some (.d EM), some (.d CA), some (.d (.int r)), none, none, none] := by
      by_cases c2 : r = 0
      · have emp : cs.isEmpty = true := by
          cases cs with
          | nil => rfl
          | cons => exact absurd ⟨c2, by simp⟩ c1
        rw [emp] at ne
        simp [c2, ne, vn, sizeLine_eq]
      · simp [c2]
    by_cases c3 : r = 1
    · obtain ⟨w, dk2, hw, e5⟩ := name_drawn hd hn (env := [some (dkO dk1), some (.d (.int code)), some (.d EM), some (.d CA), some (.d (.int r)), none, none, none]) (dk := dk1) rfl rfl (fun _ => rfl)
      have s5 := sXSet_of (i := 5) e5 (by show 5 < 8; decide)
      obtain ⟨z, dk3, e6⟩ := hm dk2
      have x6' : xCallK fm 0 xNil [some (dkO dk2), some (.d (.int code)), some (.d EM), some (.d CA), some (.d (.int r)), some (.d (.str (tx w))), none, none] = .ok (.int z, [some (dkO dk3), some (.d (.int code)), some (.d EM), some (.d CA), some (.d (.int r)), some (.d (.str (tx w))), none, none]) :=
        xCallK_dk (env1 := [some (dkO dk2), some (.d (.int code)), some (.d EM), some (.d CA), some (.d (.int r)), some (.d (.str (tx w))), none, none]) (ds := []) (dk0 := dk2) (dk := dk2) rfl rfl rfl e6
      refine ⟨.put (tx w) false z [], dk3, ⟨by rw [okM, okMs]; exact ⟨strOk_tx fun x hx => isL_small (hw x hx), by simp, trivial⟩, by rw [levM, levMs]; omega, fun _ _ => fitS_leaf _ _ _ _, fun c hc => ?_, by rw [thinM, thinMs]; exact ⟨by simp, trivial⟩⟩, finK_step s1 (finK_step s2 ?_)⟩
      · rw [callsM, callsMs] at hc
        cases hc
      · rw [encM_put, ← finK_dk _ dk3 [some (.d (.int code)), some (.d EM), some (.d CA), some (.d (.int r)), some (.d (.str (tx w))), none, none]]
        congr 1
        have ct : (eB (eBin gEq (eVar 4) (eC (.int 1))) asB) [some (dkO dk1), some (.d (.int code)), some (.d EM), some (.d CA), some (.d (.int r)), none, none, none] = .ok true := by simp [c3]
        rw [sSeq_eq, sIf_eq, ct, R.st_ok, if_pos rfl, sSeq_eq, s5]
        show (sXRet _ [some (dkO dk2), some (.d (.int code)), some (.d EM), some (.d CA), some (.d (.int r)), some (.d (.str (tx w))), none, none]).andThen _ = _
        rw [sXRet_eq]
        have et : xTup (xCons (xP (eC (.str "put"))) (xCons (xP (eVar 5)) (xCons (xP (eC (.bool false))) (xCons (xCallK fm 0 xNil) (xCons (xP (eTup aNil)) xNil))))) [some (dkO dk2), some (.d (.int code)), some (.d EM), some (.d CA), some (.d (.int r)), some (.d (.str (tx w))), none, none] = .ok (.tuple [.str "put", .str (tx w), .bool false, .int z, .tuple []], [some (dkO dk3), some (.d (.int code)), some (.d EM), some (.d CA), some (.d (.int r)), some (.d (.str (tx w))), none, none]) := by
          simp [x6', sizeLine_eq]
        rw [et]
        rfl
    · have s3 : (sIf (eB (eBin gEq (eVar 4) (eC (.int 1))) asB)
    (sSeq (sXSet 5 (xCall fn (xCons (xP (eVar 1)) (xCons (xBin (gI0 fun i j => i + j) (xP (eC (.int 3))) (xCallK fd 0 (xCons (xP (eC (.int 3))) xNil))) xNil))))
    (sXRet (xTup (xCons (xP (eC (.str "put"))) (xCons (xP (eVar 5)) (xCons (xP (eC (.bool false))) (xCons (xCallK fm 0 xNil) (xCons (xP (eTup aNil)) xNil))))))))
    sSkip) [some (dkO dk1), some (.d (.int code)), some (.d EM), some (.d CA), some (.d (.int r)), none, none, none] = .nx [some (dkO dk1), some (.d (.int code)), some (.d EM), some (.d CA), some (.d (.int r)), none, none, none] := by simp [c3]
      obtain ⟨ts, dk2, l1, l2, l3⟩ := lcX_dk (g := gtName 7) (fe := xCallK fr 0 (xCons (xP (eVar 1)) (xCons (xP (eVar 7)) (xCons (xP (eVar 3)) xNil)))) (vs := [7]) encM encM (fun p t => 0 < n ∧ TermC cs (n - 1) p t) (fun dk => [some (dkO dk), some (.d (.int code)), some (.d EM), some (.d CA), some (.d (.int r)), none, none, none]) ps (fun p hp dk => by
        obtain ⟨n0, hh⟩ := hr p hp
        obtain ⟨t, dk', ht, e⟩ := hh dk
        refine ⟨[some (dkO dk), some (.d (.int code)), some (.d EM), some (.d CA), some (.d (.int r)), none, none, some (.d (encM p))], t, [some (dkO dk'), some (.d (.int code)), some (.d EM), some (.d CA), some (.d (.int r)), none, none, some (.d (encM p))], dk', rfl, ?_, rfl, n0, ht⟩
        exact xCallK_dk (env1 := [some (dkO dk), some (.d (.int code)), some (.d EM), some (.d CA), some (.d (.int r)), none, none, some (.d (encM p))]) (ds := [.int code, encM p, CA]) (dk0 := dk) (dk := dk) rfl (by simp) rfl e) dk1
      have lc : xLc (eB (eBin gIx (eVar 2) (eC (.int 4))) itD) (gtName 7) (xCallK fr 0 (xCons (xP (eVar 1)) (xCons (xP (eVar 7)) (xCons (xP (eVar 3)) xNil)))) [7] [some (dkO dk1), some (.d (.int code)), some (.d EM), some (.d CA), some (.d (.int r)), none, none, none] = .ok (.list (ts.map encM), [some (dkO dk2), some (.d (.int code)), some (.d EM), some (.d CA), some (.d (.int r)), none, none, none]) :=
        xLc_of (ds := ps.map encM) (by simp [i4]) (by rw [List.length_map, sizeLine_eq]; omega) rfl l1
      have s4 := sXSet_of (i := 6) lc (by show 6 < 8; decide)
      refine ⟨.put nm (kp && decide (r < 5)) ad ts, dk2, ?_, finK_step s1 (finK_step s2 (finK_step s3 (finK_step s4 ?_)))⟩
      · refine ⟨by rw [okM, okMs_iff]; exact ⟨hnm, by omega, fun t ht => (l3 t ht).elim fun _ h => h.2.2.1⟩, ?_, ?_, fun c hc => ?_, by rw [thinM, thinMs_iff]; exact ⟨by omega, fun t ht => (l3 t ht).elim fun _ h => h.2.2.2.2.2.2⟩⟩
        · rw [levM]
          have := levMs_of (n := n) (bs := ts) fun t ht => by obtain ⟨_, _, n0, h⟩ := l3 t ht; have := h.2.1; omega
          omega
        · exact fitS_parts l2 fun t ht => by obtain ⟨p, hp, _, h⟩ := l3 t ht; exact ⟨p, hp, h.2.2.1⟩
        · rw [callsM] at hc
          exact callsMs_in (fun b hb => (l3 b hb).elim fun _ h => h.2.2.2.2.2.1) c hc
      · rw [encM_put, ← finK_dk _ dk2 [some (.d (.int code)), some (.d EM), some (.d CA), some (.d (.int r)), none, some (.d (.list (ts.map encM))), none]]
        congr 1
        generalize ts.map encM = TS
        cases kp <;> simp [i1, i2, i3, sizeLine_eq]
def CallOk (ks bs : List Str) (c : Int × Int) : Prop := ∃ i j : Nat, c = ((i : Int), (j : Int)) ∧ ∃ z, ks[i]? = some z ∧ bs[j]? = some z
abbrev callsIn : Ev → SR := (sIf (eB (eBin gEq (eBin gIx (eVar 0) (eVar 3)) (eBin gIx (eVar 1) (eVar 4))) asB)
    (sApp 2 (eM (eTup (aCons (eVar 3) (aCons (eVar 4) aNil))) Ow.d))
    sSkip)
abbrev bCalls2 : Ev → SR := (sSeq (sSet 2 (eLst aNil))
    (sSeq (sFor (eB (aCons (eM (eCa gLen (aCons (eVar 0) aNil)) viewD) aNil) rg1) (gtName 3)
    (sFor (eB (aCons (eM (eCa gLen (aCons (eVar 1) aNil)) viewD) aNil) rg1) (gtName 4)
    callsIn))
    (sRetV 2)))
def caO (cs : List (Int × Int)) : Ow := .l (cs.map fun c => .d (encCl c))
theorem viewD_caO (cs : List (Int × Int)) : viewD (caO cs) = caD cs := viewD_of encCl cs
theorem calls2_fin (ks bs : List Str) (hk : ks.length ≤ 100) (hb : bs.length ≤ 100) (B : D) (hB : gLen [B] = some (.d (.int (bs.length : Nat)))) (hB2 : ∀ (j : Nat) z, bs[j]? = some z → gIx B (.int (j : Nat)) = some (.str z)) :
    ∃ cs, finR (bCalls2 (envOf 3 [.list (ks.map PyData.str), B])) = .ok (caO cs) ∧ ∀ c ∈ cs, CallOk ks bs c := by
  obtain ⟨KS, hKS⟩ : ∃ d, d = PyData.list (ks.map PyData.str) := ⟨_, rfl⟩
  have gl : gLen [KS] = some (.d (.int (ks.length : Nat))) := by
    have : gLen [KS] = some (Ow.d (.int (ks.map PyData.str).length)) := by rw [hKS]; rfl
    rw [this, List.length_map]
  have ik : ∀ (i : Nat) z, ks[i]? = some z → gIx KS (.int (i : Nat)) = some (.str z) := fun i z h => by
    rw [hKS]
    exact atI_natD (by rw [List.getElem?_map, h]; rfl)
  rw [← hKS]
  have he : envOf 3 [KS, B] = [some (.d KS), some (.d B), none, none, none] := rfl
  rw [he]
  have rg : ∀ n : Nat, n ≤ 100 → rg1 [.int (n : Nat)] = .ok (rangeD 0 n) := fun n h => by
    have : rg1 [.int (n : Nat)] = .ok (rangeD 0 ((n : Nat) : Int).toNat) := guard_ok (by omega)
    rw [this, Int.toNat_natCast]
  have rl : ∀ n : Nat, (rangeD 0 n).length = n := fun n => by simp [rangeD]
  obtain ⟨env', lp, cs, x3, x4, e, hl, hc⟩ := forL_ind (g := gtName 3) (f := (sFor (eB (aCons (eM (eCa gLen (aCons (eVar 1) aNil)) viewD) aNil) rg1) (gtName 4) callsIn)) (rangeD 0 ks.length)
    (fun i env => ∃ (cs : List (Int × Int)) (x3 x4 : Option Ow), env = [some (.d KS), some (.d B), some (caO cs), x3, x4] ∧ cs.length ≤ 100 * i ∧ ∀ c ∈ cs, CallOk ks bs c) (fun i d env hdd hI => by
      obtain ⟨cs, x3, x4, he, hl, hc⟩ := hI
      obtain ⟨hi, ed⟩ := rangeD_at hdd
      rw [Int.zero_add] at ed
      subst ed he
      obtain ⟨zk, hzk⟩ : ∃ z, ks[i]? = some z := ⟨_, List.getElem?_eq_getElem hi⟩
      obtain ⟨env', lp, cs2, x4', e, hl2, hc2⟩ := forL_ind (g := gtName 4) (f := callsIn) (rangeD 0 bs.length)
        (fun j env => ∃ (cs2 : List (Int × Int)) (x4 : Option Ow), env = [some (.d KS), some (.d B), some (caO cs2), some (.d (.int (i : Nat))), x4] ∧ cs2.length ≤ 100 * i + j ∧ ∀ c ∈ cs2, CallOk ks bs c) (fun j d env hdd hI => by
          obtain ⟨cs2, x4, he, hl2, hc2⟩ := hI
          obtain ⟨hj, ed⟩ := rangeD_at hdd
          rw [Int.zero_add] at ed
          subst ed he
          obtain ⟨zb, hzb⟩ : ∃ z, bs[j]? = some z := ⟨_, List.getElem?_eq_getElem hj⟩
          have i1 := ik i zk hzk
          have i2 := hB2 j zb hzb
          cases c : zk == zb with
          | false =>
            refine ⟨_, rfl, [some (.d KS), some (.d B), some (caO cs2), some (.d (.int (i : Nat))), some (.d (.int (j : Nat)))], .inl ?_, cs2, _, rfl, by omega, hc2⟩
            simp [i1, i2, gEq_str, c]
          | true =>
            have ez : zk = zb := by simpa using c
            have al : (cs2.map fun c => Ow.d (encCl c)).length < 16777216 := by rw [List.length_map]; omega
            have am : (cs2.map fun c => Ow.d (encCl c)) ++ [Ow.d (.tuple [.int (i : Nat), .int (j : Nat)])] = (cs2 ++ [((i : Int), (j : Int))]).map fun c => Ow.d (encCl c) := by simp [encCl]
            refine ⟨_, rfl, [some (.d KS), some (.d B), some (caO (cs2 ++ [((i : Int), (j : Int))])), some (.d (.int (i : Nat))), some (.d (.int (j : Nat)))], .inl ?_, _, _, rfl, by simp; omega, fun x hx => ?_⟩
            · unfold caO
              rw [← am]
              generalize (cs2.map fun c => Ow.d (encCl c)) = os at al
              simp [i1, i2, gEq_str, c, sizeLine_eq, al]
            · rcases List.mem_append.mp hx with h | h
              · exact hc2 x h
              · rw [List.mem_singleton] at h
                exact ⟨i, j, h, zk, hzk, by rw [ez]; exact hzb⟩) [some (.d KS), some (.d B), some (caO cs), some (.d (.int (i : Nat))), x4] ⟨cs, x4, rfl, by omega, hc⟩
      subst e
      rw [rl] at hl2
      refine ⟨_, rfl, [some (.d KS), some (.d B), some (caO cs2), some (.d (.int (i : Nat))), x4'], .inl ?_, cs2, _, _, rfl, by omega, hc2⟩
      show sFor _ _ _ [some (.d KS), some (.d B), some (caO cs), some (.d (.int (i : Nat))), x4] = _
      rw [sFor_eq]
      have e3 : (eB (aCons (eM (eCa gLen (aCons (eVar 1) aNil)) viewD) aNil) rg1) [some (.d KS), some (.d B), some (caO cs), some (.d (.int (i : Nat))), x4] = .ok (rangeD 0 bs.length) := by simp [hB, rg bs.length hb]
      rw [e3, R.st_ok]
      exact lp) [some (.d KS), some (.d B), some (caO []), none, none] ⟨[], none, none, rfl, by simp, fun c h => by cases h⟩
  subst e
  refine ⟨cs, ?_, hc⟩
  have c0 : caO [] = .l [] := rfl
  refine fin_step (env1 := [some (.d KS), some (.d B), some (caO []), none, none]) (by simp [sizeLine_eq, c0]) ?_
  refine fin_step (env1 := [some (.d KS), some (.d B), some (caO cs), x3, x4]) (by
    rw [sFor_eq]
    have e3 : (eB (aCons (eM (eCa gLen (aCons (eVar 0) aNil)) viewD) aNil) rg1) [some (.d KS), some (.d B), some (caO []), none, none] = .ok (rangeD 0 ks.length) := by simp [gl, rg ks.length hk]
    rw [e3, R.st_ok]
    exact lp) ?_
  simp [sRetV]
abbrev bRule (fd ft fc : List D → R Ow) : Ev → SR := (sSeq (sXSet 4 (xCallK fd 0 (xCons (xP (eC (.int 3))) xNil)))
    (sSeq (sIf (eB (eBin gEq (eVar 4) (eC (.int 0))) asB)
    (sRet (eM (eVar 2) Ow.d))
    sSkip)
    (sSeq (sIf (eB (eBin gEq (eVar 4) (eC (.int 1))) asB)
    (sXRet (xCallK fc 0 (xCons (xP (eVar 1)) (xCons (xP (eVar 2)) (xCons (xP (eVar 3)) xNil)))))
    sSkip)
    (sXRet (xCallK ft 0 (xCons (xP (eVar 1)) (xCons (xP (eVar 3)) (xCons (xP (eC (.int 2))) xNil))))))))
theorem rule_fin {fd ft fc : List D → R Ow} (hd : Draws fd) (code : Int) (cs : List (Int × Int)) (base : Trm) (hbase : TermIn [] 2 base)
    (ht : ∀ dk, ∃ t dk', TermIn cs 2 t ∧ ft (dkD dk :: [.int code, caD cs, .int 2]) = tells (encM t) dk')
    (hc : ∀ dk, ∃ t dk', TermC cs 2 base t ∧ fc (dkD dk :: [.int code, encM base, caD cs]) = tells (encM t) dk') (dk : List Int) :
    ∃ t dk', TermIn cs 2 t ∧ finK (bRule fd ft fc (some (dkO dk) :: envOf 1 [.int code, encM base, caD cs])) = tells (encM t) dk' := by
  obtain ⟨CA, hCA⟩ : ∃ d, d = caD cs := ⟨_, rfl⟩
  rw [← hCA] at ht hc ⊢
  have he : (some (dkO dk) :: envOf 1 [.int code, encM base, CA]) = [some (dkO dk), some (.d (.int code)), some (.d (encM base)), some (.d CA), none] := rfl
  rw [he]
  obtain ⟨r, dk1, r0, r1, e1⟩ := hd dk 3 (by decide)
  have s1 : sXSet 4 (xCallK fd 0 (xCons (xP (eC (.int 3))) xNil)) [some (dkO dk), some (.d (.int code)), some (.d (encM base)), some (.d CA), none] = .nx [some (dkO dk1), some (.d (.int code)), some (.d (encM base)), some (.d CA), some (.d (.int r))] :=
    sXSet_of (env1 := [some (dkO dk1), some (.d (.int code)), some (.d (encM base)), some (.d CA), none]) (xCallK_dk (env1 := [some (dkO dk), some (.d (.int code)), some (.d (encM base)), some (.d CA), none]) (ds := [.int 3]) (dk0 := dk) (dk := dk) rfl (by simp) rfl e1) (by show 4 < 5; decide)
  by_cases c0 : r = 0
  · refine ⟨base, dk1, ⟨hbase.1, hbase.2.1, hbase.2.2.1, fun c hc => absurd (hbase.2.2.2.1 c hc) (by simp), hbase.2.2.2.2⟩, finK_step s1 ?_⟩
    rw [← finK_dk _ dk1 [some (.d (.int code)), some (.d (encM base)), some (.d CA), some (.d (.int r))]]
    simp [c0]
  · by_cases c1 : r = 1
    · obtain ⟨t, dk2, h, e⟩ := hc dk1
      refine ⟨t, dk2, ⟨h.1, h.2.1, h.2.2.1 2 hbase.2.2.1, h.2.2.2⟩, finK_step s1 ?_⟩
      rw [← finK_dk _ dk2 [some (.d (.int code)), some (.d (encM base)), some (.d CA), some (.d (.int r))]]
      congr 1
      have x : xCallK fc 0 (xCons (xP (eVar 1)) (xCons (xP (eVar 2)) (xCons (xP (eVar 3)) xNil))) [some (dkO dk1), some (.d (.int code)), some (.d (encM base)), some (.d CA), some (.d (.int r))] = .ok (encM t, [some (dkO dk2), some (.d (.int code)), some (.d (encM base)), some (.d CA), some (.d (.int r))]) :=
        xCallK_dk (env1 := [some (dkO dk1), some (.d (.int code)), some (.d (encM base)), some (.d CA), some (.d (.int r))]) (ds := [.int code, encM base, CA]) (dk0 := dk1) (dk := dk1) rfl (by simp) rfl e
      simp [c1] at x ⊢
      simp [x]
    · obtain ⟨t, dk2, h, e⟩ := ht dk1
      refine ⟨t, dk2, h, finK_step s1 ?_⟩
      rw [← finK_dk _ dk2 [some (.d (.int code)), some (.d (encM base)), some (.d CA), some (.d (.int r))]]
      congr 1
      have x : xCallK ft 0 (xCons (xP (eVar 1)) (xCons (xP (eVar 3)) (xCons (xP (eC (.int 2))) xNil))) [some (dkO dk1), some (.d (.int code)), some (.d (encM base)), some (.d CA), some (.d (.int r))] = .ok (encM t, [some (dkO dk2), some (.d (.int code)), some (.d (encM base)), some (.d CA), some (.d (.int r))]) :=
        xCallK_dk (env1 := [some (dkO dk1), some (.d (.int code)), some (.d (encM base)), some (.d CA), some (.d (.int r))]) (ds := [.int code, CA, .int 2]) (dk0 := dk1) (dk := dk1) rfl (by simp) rfl e
      simp [c0, c1, x]
mutual
def bareM : Trm → Trm
  | .call m b => .call m b
  | .put nm _ ad ps => .put nm false ad (bareMs ps)
def bareMs : List Trm → List Trm
  | [] => []
  | p :: ps => bareM p :: bareMs ps
end
theorem bareMs_map : ∀ ps : List Trm, bareMs ps = ps.map bareM
  | [] => by rw [bareMs]; rfl
  | p :: ps => by rw [bareMs, bareMs_map ps]; rfl
mutual
theorem ok_bareM : ∀ t : Trm, okM t → okM (bareM t)
  | .call m b, _ => by rw [bareM, okM]; trivial
  | .put nm kp ad ps, h => by
    rw [okM] at h
    rw [bareM, okM, bareMs_map, List.length_map, ← bareMs_map]
    exact ⟨h.1, h.2.1, ok_bareMs ps h.2.2⟩
theorem ok_bareMs : ∀ ps : List Trm, okMs ps → okMs (bareMs ps)
  | [], _ => by rw [bareMs, okMs]; trivial
  | p :: ps, h => by
    rw [okMs] at h
    rw [bareMs, okMs]
    exact ⟨ok_bareM p h.1, ok_bareMs ps h.2⟩
end
mutual
theorem lev_bareM : ∀ t : Trm, levM (bareM t) = levM t
  | .call m b => by rw [bareM]
  | .put nm kp ad ps => by rw [bareM, levM, levM, lev_bareMs ps]
theorem lev_bareMs : ∀ ps : List Trm, levMs (bareMs ps) = levMs ps
  | [] => by rw [bareMs]
  | p :: ps => by rw [bareMs, levMs, levMs, lev_bareM p, lev_bareMs ps]
end
abbrev bBare (fr : List D → R Ow) : Ev → SR := (sSeq (sIf (eB (eBin gEq (eBin gIx (eVar 0) (eC (.int 0))) (eC (.str "call"))) asB)
    (sRet (eM (eVar 0) Ow.d))
    sSkip)
    (sRet (eM (eTup (aCons (eC (.str "put")) (aCons (eBin gIx (eVar 0) (eC (.int 1))) (aCons (eC (.bool false)) (aCons (eBin gIx (eVar 0) (eC (.int 3))) (aCons (eM (eCa gTuple (aCons (eB (eLc (eB (eBin gIx (eVar 0) (eC (.int 4))) itD) (gtName 1) cYes (eB (aCons (eVar 1) aNil) fr) [1]) shD) aNil)) viewD) aNil)))))) Ow.d)))
theorem bare_fin {fr : List D → R Ow} (t : Trm) (h : ∀ nm kp ad ps, t = .put nm kp ad ps → ps.length ≤ 1000 ∧ ∀ p ∈ ps, fr [encM p] = .ok (.d (encM (bareM p)))) : finR (bBare fr (envOf 1 [encM t])) = .ok (.d (encM (bareM t))) := by
  have he : envOf 1 [encM t] = [some (.d (encM t)), none] := rfl
  rw [he]
  cases t with
  | call m b =>
    rw [bareM]
    simp [c_ix0]
  | put nm kp ad ps =>
    obtain ⟨l1, l2⟩ := h nm kp ad ps rfl
    rw [bareM, encM_put nm false ad (bareMs ps), bareMs_map, List.map_map]
    have lc : eLc (eB (eBin gIx (eVar 0) (eC (.int 4))) itD) (gtName 1) cYes (eB (aCons (eVar 1) aNil) fr) [1] [some (.d (encM (.put nm kp ad ps))), none] = .ok (.l (ps.map fun p => .d (encM (bareM p)))) := by
      refine eLc_of (ds := ps.map encM) (by simp [m_ix4]) (by rw [List.length_map, sizeLine_eq]; omega) (lcR_map encM _ ps fun p hp => ⟨[some (.d (encM (.put nm kp ad ps))), some (.d (encM p))], by simp [wipeE], rfl, by simp [l2 p hp]⟩)
    have sh := unDs_of (fun p => encM (bareM p)) ps
    have e2 : (ps.map (encM ∘ bareM)) = ps.map fun p => encM (bareM p) := rfl
    rw [e2]
    generalize (ps.map fun p => Ow.d (encM (bareM p))) = os at lc sh
    generalize (ps.map fun p => encM (bareM p)) = ds at sh
    simp [m_ix0, m_ix1, m_ix3, lc, sh, sizeLine_eq]
end
end Mir
set_option Elab.async false
set_option linter.all false
set_option maxRecDepth 100000
set_option maxHeartbeats 4000000
namespace Mir
open PySem PySem.Spec L2
theorem names_fun {fn : List D → R Ow} {code : Int} (hn : Names fn code 900) : ∃ kn : Nat → Str, ∀ k, k < 900 → fn [.int code, .int (k : Nat)] = .ok (.d (.str (kn k))) ∧ PyData.strOk (kn k) = true := by
  have : ∀ k : Nat, ∃ z : Str, k < 900 → fn [.int code, .int (k : Nat)] = .ok (.d (.str z)) ∧ PyData.strOk z = true := fun k => by
    by_cases h : k < 900
    · obtain ⟨w, h1, h2⟩ := hn k (by omega) (by omega)
      exact ⟨tx w, fun _ => ⟨h1, strOk_tx fun x hx => isL_small (h2 x hx)⟩⟩
    · exact ⟨"", fun z => absurd z h⟩
  exact ⟨fun k => (this k).choose, fun k hk => (this k).choose_spec hk⟩
def RwOk (w : Nat) (kn : Nat → Str) (r : Rw) : Prop := PyData.strOk r.nm = true ∧ r.br.length ≤ 4 ∧ ∀ z ∈ r.br, ∃ j, j < w ∧ z = kn j
/-- the rows' names, in some order -/
def RwNm (kn : Nat → Str) (rs : List Rw) : Prop := ∃ b, b ≤ 12 ∧ (rs.map (·.nm)).Perm ((List.range rs.length).map fun j => kn (b + j))
structure WdOk (w : Wood) (kn : Nat → Str) : Prop where
  few : w.length ≤ 3
  one : 1 ≤ w.length
  nok : ∀ k, k < 900 → PyData.strOk (kn k) = true
  at_ : ∀ (k : Nat) p, w[k]? = some p → p.1 = kn k
  rows : ∀ p ∈ w, p.2.length ≤ 3 ∧ (∃ r ∈ p.2, r.br = []) ∧ ∀ r ∈ p.2, RwOk w.length kn r
  rnm : ∀ p ∈ w, RwNm kn p.2
noncomputable section
abbrev woodIn (fd fn : List D → R Ow) : Ev → SR := (sSeq (sXSet 8 (xLc2 (xRg1 (xCons (xCallK fd 0 (xCons (xP (eC (.int 5))) xNil)) xNil)) (gtName 9) (xCall fn (xCons (xP (eVar 1)) (xCons (xCallK fd 0 (xCons (xP (eVar 2)) xNil)) xNil))) [9]))
    (sApp 6 (eM (eTup (aCons (eM (eB (aCons (eVar 1) (aCons (eM (eBinO gAdd (eB (eBinO gAdd (eC (.int 4)) (eVar 7)) shD) (eBin gMul (eVar 3) (eVar 5))) viewD) aNil)) fn) viewD) (aCons (eM (eCa gTuple (aCons (eVar 8) aNil)) viewD) aNil))) Ow.d)))
abbrev woodB (fd fn : List D → R Ow) : Ev → SR := (sSeq (sSet 6 (eLst (aCons (eTup (aCons (eM (eB (aCons (eVar 1) (aCons (eM (eBinO gAdd (eC (.int 3)) (eBin gMul (eVar 3) (eVar 5))) viewD) aNil)) fn) viewD) (aCons (eTup aNil) aNil))) aNil)))
    (sSeq (sXFor (xRg1 (xCons (xCallK fd 0 (xCons (xP (eC (.int 3))) xNil)) xNil)) (gtName 7)
    (woodIn fd fn))
    (sApp 4 (eM (eTup (aCons (eM (eB (aCons (eVar 1) (aCons (eVar 5) aNil)) fn) viewD) (aCons (eM (eCa gSorted (aCons (eB (eVarO 6) shD) aNil)) viewD) aNil))) Ow.d))))
abbrev bWood (fd fn : List D → R Ow) : Ev → SR := (sSeq (sXSet 2 (xBin (gI0 fun i j => i + j) (xP (eC (.int 1))) (xCallK fd 0 (xCons (xP (eC (.int 3))) xNil))))
    (sSeq (sXSet 3 (xBin gMul (xCallK fd 0 (xCons (xP (eC (.int 2))) xNil)) (xP (eC (.int 3)))))
    (sSeq (sSet 4 (eLst aNil))
    (sSeq (sFor (eB (aCons (eVar 2) aNil) rg1) (gtName 5)
    (woodB fd fn))
    (sFrz 4 (sRet (eM (eVar 4) Ow.d)))))))
def rwO (rs : List Rw) : Ow := .l (rs.map fun r => .d (encRw r))
def wdO (w : Wood) : Ow := .l (w.map fun p => .d (encKd p))
theorem viewD_wdO (w : Wood) : viewD (wdO w) = encWd w := viewD_of encKd w
theorem shD_rwO (rs : List Rw) : shD (rwO rs) = .ok (.list (rs.map encRw)) := unDs_of encRw rs
theorem rg1_nat (n : Nat) (h : n ≤ 100000) : rg1 [.int (n : Nat)] = .ok (rangeD 0 n) := by
  have : rg1 [.int (n : Nat)] = .ok (rangeD 0 ((n : Nat) : Int).toNat) := guard_ok (by omega)
  rw [this, Int.toNat_natCast]
theorem rangeD_len (n : Nat) : (rangeD 0 n).length = n := by simp [rangeD]
theorem rangeD_map (n : Nat) : rangeD 0 n = (List.range n).map fun k : Nat => PyData.int (k : Nat) := by
  unfold rangeD
  exact List.map_congr_left fun k _ => by simp
section
variable {fd fn : List D → R Ow} {code : Int} {kn : Nat → Str}
theorem woodIn_ok (hd : Draws fd) (hk : ∀ k, k < 900 → fn [.int code, .int (k : Nat)] = .ok (.d (.str (kn k))) ∧ PyData.strOk (kn k) = true) (c ap k j : Nat) (hc : 0 < c ∧ c ≤ 3) (ha : ap ≤ 3) (hk2 : k ≤ 3) (hj : j ≤ 3) (a4 x8 : Option Ow) (rs : List Rw) (hrs : rs.length ≤ 100) (dk : List Int) :
    ∃ (r : Rw) (dk' : List Int) (y8 : Option Ow), (RwOk c kn r ∧ r.nm = kn (4 + j + ap * k)) ∧ woodIn fd fn [some (dkO dk), some (.d (.int code)), some (.d (.int (c : Nat))), some (.d (.int (ap : Nat))), a4, some (.d (.int (k : Nat))), some (rwO rs), some (.d (.int (j : Nat))), x8, none] = .nx [some (dkO dk'), some (.d (.int code)), some (.d (.int (c : Nat))), some (.d (.int (ap : Nat))), a4, some (.d (.int (k : Nat))), some (rwO (rs ++ [r])), some (.d (.int (j : Nat))), y8, none] := by
  obtain ⟨m, dk1, m0, m1, e1⟩ := hd dk 5 (by decide)
  obtain ⟨m, rfl⟩ : ∃ n : Nat, m = (n : Int) := ⟨m.toNat, by omega⟩
  have xi : xRg1 (xCons (xCallK fd 0 (xCons (xP (eC (.int 5))) xNil)) xNil) [some (dkO dk), some (.d (.int code)), some (.d (.int (c : Nat))), some (.d (.int (ap : Nat))), a4, some (.d (.int (k : Nat))), some (rwO rs), some (.d (.int (j : Nat))), x8, none] = .ok (rangeD 0 m, [some (dkO dk1), some (.d (.int code)), some (.d (.int (c : Nat))), some (.d (.int (ap : Nat))), a4, some (.d (.int (k : Nat))), some (rwO rs), some (.d (.int (j : Nat))), x8, none]) := by
    have x := xCallK_dk (m := fd) (i := 0) (fa := xCons (xP (eC (.int 5))) xNil) (env := [some (dkO dk), some (.d (.int code)), some (.d (.int (c : Nat))), some (.d (.int (ap : Nat))), a4, some (.d (.int (k : Nat))), some (rwO rs), some (.d (.int (j : Nat))), x8, none]) (env1 := [some (dkO dk), some (.d (.int code)), some (.d (.int (c : Nat))), some (.d (.int (ap : Nat))), a4, some (.d (.int (k : Nat))), some (rwO rs), some (.d (.int (j : Nat))), x8, none]) (ds := [.int 5]) (dk0 := dk) (dk := dk) rfl (by simp) rfl e1
    rw [xRg1_eq, xCons_eq, x]
    simp [rg1_nat m (by omega)]
  obtain ⟨ws, dk2, l1, l2, l3⟩ := lcX_dk (g := gtName 9) (fe := xCall fn (xCons (xP (eVar 1)) (xCons (xCallK fd 0 (xCons (xP (eVar 2)) xNil)) xNil))) (vs := [9]) (fun k : Nat => PyData.int (k : Nat)) PyData.str (fun _ (z : Str) => ∃ j, j < c ∧ z = kn j) (fun dk => [some (dkO dk), some (.d (.int code)), some (.d (.int (c : Nat))), some (.d (.int (ap : Nat))), a4, some (.d (.int (k : Nat))), some (rwO rs), some (.d (.int (j : Nat))), x8, none]) (List.range m) (fun i hi dk => by
    obtain ⟨q, dk', q0, q1, e⟩ := hd dk (c : Nat) (by omega)
    obtain ⟨q, rfl⟩ : ∃ n : Nat, q = (n : Int) := ⟨q.toNat, by omega⟩
    have hq := (hk q (by omega)).1
    refine ⟨[some (dkO dk), some (.d (.int code)), some (.d (.int (c : Nat))), some (.d (.int (ap : Nat))), a4, some (.d (.int (k : Nat))), some (rwO rs), some (.d (.int (j : Nat))), x8, some (.d (.int (i : Nat)))], kn q, [some (dkO dk'), some (.d (.int code)), some (.d (.int (c : Nat))), some (.d (.int (ap : Nat))), a4, some (.d (.int (k : Nat))), some (rwO rs), some (.d (.int (j : Nat))), x8, some (.d (.int (i : Nat)))], dk', rfl, ?_, rfl, q, by omega, rfl⟩
    have x := xCallK_dk (m := fd) (i := 0) (fa := xCons (xP (eVar 2)) xNil) (env := [some (dkO dk), some (.d (.int code)), some (.d (.int (c : Nat))), some (.d (.int (ap : Nat))), a4, some (.d (.int (k : Nat))), some (rwO rs), some (.d (.int (j : Nat))), x8, some (.d (.int (i : Nat)))]) (env1 := [some (dkO dk), some (.d (.int code)), some (.d (.int (c : Nat))), some (.d (.int (ap : Nat))), a4, some (.d (.int (k : Nat))), some (rwO rs), some (.d (.int (j : Nat))), x8, some (.d (.int (i : Nat)))]) (ds := [.int (c : Nat)]) (dk0 := dk) (dk := dk) rfl (by simp) rfl e
    rw [xCall_eq, xCons_eq, xP_eq]
    simp only [eVar_1, R.bind_ok, xCons_eq, x, xNil_eq, hq, viewD_d]
    rfl) dk1
  have lc : xLc2 (xRg1 (xCons (xCallK fd 0 (xCons (xP (eC (.int 5))) xNil)) xNil)) (gtName 9) (xCall fn (xCons (xP (eVar 1)) (xCons (xCallK fd 0 (xCons (xP (eVar 2)) xNil)) xNil))) [9] [some (dkO dk), some (.d (.int code)), some (.d (.int (c : Nat))), some (.d (.int (ap : Nat))), a4, some (.d (.int (k : Nat))), some (rwO rs), some (.d (.int (j : Nat))), x8, none] = .ok (.list (ws.map PyData.str), [some (dkO dk2), some (.d (.int code)), some (.d (.int (c : Nat))), some (.d (.int (ap : Nat))), a4, some (.d (.int (k : Nat))), some (rwO rs), some (.d (.int (j : Nat))), x8, none]) :=
    xLc2_of xi (by rw [rangeD_len, sizeLine_eq]; omega) rfl (by rw [rangeD_map]; exact l1)
  have s1 := sXSet_of (i := 8) lc (by show 8 < 10; decide)
  have hm := (hk (4 + j + ap * k) (by
    have : ap * k ≤ 3 * 3 := Nat.mul_le_mul ha hk2
    omega)).1
  have mu : gMul (.int (ap : Nat)) (.int (k : Nat)) = some (.int ((ap : Int) * k)) := gMul_by (by omega) (by omega)
  have ea : ((4 + j + ap * k : Nat) : Int) = 4 + (j : Int) + (ap : Int) * k := by rw [Int.natCast_add, Int.natCast_add, Int.natCast_mul]; rfl
  rw [ea] at hm
  have wl : ws.length = m := by rw [l2, List.length_range]
  refine ⟨⟨kn (4 + j + ap * k), ws⟩, dk2, some (.d (.list (ws.map PyData.str))), ⟨⟨(hk _ (by
    have : ap * k ≤ 3 * 3 := Nat.mul_le_mul ha hk2
    omega)).2, by show ws.length ≤ 4; omega, fun z hz => (l3 z hz).elim fun _ h => h.2⟩, rfl⟩, seq_nx s1 ?_⟩
  have al : (rs.map fun r => Ow.d (encRw r)).length < 16777216 := by rw [List.length_map]; omega
  have am : (rs.map fun r => Ow.d (encRw r)) ++ [Ow.d (.tuple [.str (kn (4 + j + ap * k)), .tuple (ws.map PyData.str)])] = (rs ++ [(⟨kn (4 + j + ap * k), ws⟩ : Rw)]).map fun r => Ow.d (encRw r) := by simp [encRw]
  unfold rwO
  rw [← am]
  generalize (rs.map fun r => Ow.d (encRw r)) = os at al
  generalize ws.map PyData.str = WS
  generalize kn (4 + j + ap * k) = KN at hm
  simp [mu, hm, sizeLine_eq, al]
theorem woodB_ok (hd : Draws fd) (hk : ∀ k, k < 900 → fn [.int code, .int (k : Nat)] = .ok (.d (.str (kn k))) ∧ PyData.strOk (kn k) = true) (c ap k : Nat) (hc : 0 < c ∧ c ≤ 3) (ha : ap ≤ 3) (hk2 : k ≤ 3) (w : Wood) (hw : w.length ≤ 100) (x6 x7 x8 : Option Ow) (dk : List Int) :
    ∃ (rows : List Rw) (dk' : List Int) (y6 y7 y8 : Option Ow), ((rows.length ≤ 3 ∧ (∃ r ∈ rows, r.br = []) ∧ ∀ r ∈ rows, RwOk c kn r) ∧ RwNm kn rows) ∧ woodB fd fn [some (dkO dk), some (.d (.int code)), some (.d (.int (c : Nat))), some (.d (.int (ap : Nat))), some (wdO w), some (.d (.int (k : Nat))), x6, x7, x8, none] = .nx [some (dkO dk'), some (.d (.int code)), some (.d (.int (c : Nat))), some (.d (.int (ap : Nat))), some (wdO (w ++ [(kn k, rows)])), some (.d (.int (k : Nat))), y6, y7, y8, none] := by
  have hm := (hk (3 + ap * k) (by
    have : ap * k ≤ 3 * 3 := Nat.mul_le_mul ha hk2
    omega))
  have mu : gMul (.int (ap : Nat)) (.int (k : Nat)) = some (.int ((ap : Int) * k)) := gMul_by (by omega) (by omega)
  have ea : ((3 + ap * k : Nat) : Int) = 3 + (ap : Int) * k := by rw [Int.natCast_add, Int.natCast_mul]; rfl
  obtain ⟨hm1, hm2⟩ := hm
  rw [ea] at hm1
  have r0 : rwO [⟨kn (3 + ap * k), []⟩] = .l [.d (.tuple [.str (kn (3 + ap * k)), .tuple []])] := rfl
  have s1 : (sSet 6 (eLst (aCons (eTup (aCons (eM (eB (aCons (eVar 1) (aCons (eM (eBinO gAdd (eC (.int 3)) (eBin gMul (eVar 3) (eVar 5))) viewD) aNil)) fn) viewD) (aCons (eTup aNil) aNil))) aNil))) [some (dkO dk), some (.d (.int code)), some (.d (.int (c : Nat))), some (.d (.int (ap : Nat))), some (wdO w), some (.d (.int (k : Nat))), x6, x7, x8, none] = .nx [some (dkO dk), some (.d (.int code)), some (.d (.int (c : Nat))), some (.d (.int (ap : Nat))), some (wdO w), some (.d (.int (k : Nat))), some (rwO [⟨kn (3 + ap * k), []⟩]), x7, x8, none] := by
    rw [r0]
    generalize kn (3 + ap * k) = KN at hm1
    simp [mu, hm1, sizeLine_eq]
  obtain ⟨m, dk1, m0, m1, e1⟩ := hd dk 3 (by decide)
  obtain ⟨m, rfl⟩ : ∃ n : Nat, m = (n : Int) := ⟨m.toNat, by omega⟩
  have xi : xRg1 (xCons (xCallK fd 0 (xCons (xP (eC (.int 3))) xNil)) xNil) [some (dkO dk), some (.d (.int code)), some (.d (.int (c : Nat))), some (.d (.int (ap : Nat))), some (wdO w), some (.d (.int (k : Nat))), some (rwO [⟨kn (3 + ap * k), []⟩]), x7, x8, none] = .ok (rangeD 0 m, [some (dkO dk1), some (.d (.int code)), some (.d (.int (c : Nat))), some (.d (.int (ap : Nat))), some (wdO w), some (.d (.int (k : Nat))), some (rwO [⟨kn (3 + ap * k), []⟩]), x7, x8, none]) := by
    have x := xCallK_dk (m := fd) (i := 0) (fa := xCons (xP (eC (.int 3))) xNil) (env := [some (dkO dk), some (.d (.int code)), some (.d (.int (c : Nat))), some (.d (.int (ap : Nat))), some (wdO w), some (.d (.int (k : Nat))), some (rwO [⟨kn (3 + ap * k), []⟩]), x7, x8, none]) (env1 := [some (dkO dk), some (.d (.int code)), some (.d (.int (c : Nat))), some (.d (.int (ap : Nat))), some (wdO w), some (.d (.int (k : Nat))), some (rwO [⟨kn (3 + ap * k), []⟩]), x7, x8, none]) (ds := [.int 3]) (dk0 := dk) (dk := dk) rfl (by simp) rfl e1
    rw [xRg1_eq, xCons_eq, x]
    simp [rg1_nat m (by omega)]
  obtain ⟨env', lp, rs, dk2, y7, y8, e, ⟨hl, hnm⟩, hb, hr⟩ := forL_ind (g := gtName 7) (f := woodIn fd fn) (rangeD 0 m)
    (fun i env => ∃ (rs : List Rw) (dk2 : List Int) (y7 y8 : Option Ow), env = [some (dkO dk2), some (.d (.int code)), some (.d (.int (c : Nat))), some (.d (.int (ap : Nat))), some (wdO w), some (.d (.int (k : Nat))), some (rwO rs), y7, y8, none] ∧ (rs.length = i + 1 ∧ rs.map (·.nm) = (List.range (i + 1)).map fun j => kn (3 + ap * k + j)) ∧ (∃ r ∈ rs, r.br = []) ∧ ∀ r ∈ rs, RwOk c kn r) (fun i d env hdd hI => by
      obtain ⟨rs, dk2, y7, y8, he, ⟨hl, hnm⟩, hb, hr⟩ := hI
      obtain ⟨hi, ed⟩ := rangeD_at hdd
      rw [Int.zero_add] at ed
      subst ed he
      obtain ⟨r, dk3, z8, ⟨ok, rn⟩, e⟩ := woodIn_ok hd hk c ap k i hc ha hk2 (by omega) (some (wdO w)) y8 rs (by omega) dk2
      refine ⟨_, rfl, _, .inl e, rs ++ [r], dk3, _, z8, rfl, ⟨by simp [hl], by
        rw [List.map_append, hnm, List.range_succ (n := i + 1), List.map_append, List.map_singleton, List.map_singleton, rn, show 4 + i + ap * k = 3 + ap * k + (i + 1) from by omega]⟩, ?_, fun x hx => ?_⟩
      · obtain ⟨q, q1, q2⟩ := hb
        exact ⟨q, List.mem_append_left _ q1, q2⟩
      · rcases List.mem_append.mp hx with h | h
        · exact hr x h
        · rw [List.mem_singleton] at h
          rw [h]; exact ok) [some (dkO dk1), some (.d (.int code)), some (.d (.int (c : Nat))), some (.d (.int (ap : Nat))), some (wdO w), some (.d (.int (k : Nat))), some (rwO [⟨kn (3 + ap * k), []⟩]), x7, x8, none]
    ⟨[⟨kn (3 + ap * k), []⟩], dk1, x7, x8, rfl, ⟨rfl, rfl⟩, ⟨_, List.mem_singleton.mpr rfl, rfl⟩, fun r h => by
      rw [List.mem_singleton] at h
      subst h
      exact ⟨hm2, by simp, fun z hz => by cases hz⟩⟩
  subst e
  rw [rangeD_len] at hl hnm
  obtain ⟨rows, hp, gs⟩ := sorted_rows rs
  have hpn : RwNm kn rows := ⟨3 + ap * k, by have : ap * k ≤ 3 * 3 := Nat.mul_le_mul ha hk2; omega, by
    rw [hp.length_eq, hl, ← hnm]
    exact hp.map _⟩
  have vr : viewD (.l (rows.map fun r => .d (encRw r))) = .list (rows.map encRw) := viewD_of encRw rows
  have sh := shD_rwO rs
  have hkk := (hk k (by omega)).1
  refine ⟨rows, dk2, some (rwO rs), y7, y8, ⟨⟨by rw [hp.length_eq]; omega, ?_, fun r h => hr r (hp.mem_iff.mp h)⟩, hpn⟩, seq_nx s1 (seq_nx (env1 := [some (dkO dk2), some (.d (.int code)), some (.d (.int (c : Nat))), some (.d (.int (ap : Nat))), some (wdO w), some (.d (.int (k : Nat))), some (rwO rs), y7, y8, none]) (by rw [sXFor_of xi]; exact lp) ?_)⟩
  · obtain ⟨q, q1, q2⟩ := hb
    exact ⟨q, hp.mem_iff.mpr q1, q2⟩
  · have al : (w.map fun p => Ow.d (encKd p)).length < 16777216 := by rw [List.length_map]; omega
    have am : (w.map fun p => Ow.d (encKd p)) ++ [Ow.d (.tuple [.str (kn k), .list (rows.map encRw)])] = (w ++ [(kn k, rows)]).map fun p => Ow.d (encKd p) := by simp [encKd]
    unfold wdO
    rw [← am]
    generalize (w.map fun p => Ow.d (encKd p)) = os at al
    generalize (rows.map fun r => Ow.d (encRw r)) = ros at gs vr
    unfold rwO at sh ⊢
    generalize (rs.map fun r => Ow.d (encRw r)) = rso at sh
    generalize rs.map encRw = rsd at sh gs
    generalize rows.map encRw = rd at vr
    generalize kn k = KN at hkk
    simp [hkk, sh, gs, vr, sizeLine_eq, al]
theorem wood_fin (hd : Draws fd) (hn : Names fn code 900) (dk : List Int) :
    ∃ (w : Wood) (kn : Nat → Str) (dk' : List Int), WdOk w kn ∧ (∀ k, k < 900 → fn [.int code, .int (k : Nat)] = .ok (.d (.str (kn k)))) ∧ finK (bWood fd fn (some (dkO dk) :: envOf 8 [.int code])) = tells (encWd w) dk' := by
  obtain ⟨kn, hk⟩ := names_fun hn
  have he : (some (dkO dk) :: envOf 8 [.int code]) = [some (dkO dk), some (.d (.int code)), none, none, none, none, none, none, none, none] := rfl
  rw [he]
  obtain ⟨c, dk1, c0, c1, e1⟩ := hd dk 3 (by decide)
  obtain ⟨c, rfl⟩ : ∃ n : Nat, c = (n : Int) := ⟨c.toNat, by omega⟩
  obtain ⟨a, dk2, a0, a1, e2⟩ := hd dk1 2 (by decide)
  obtain ⟨a, rfl⟩ : ∃ n : Nat, a = (n : Int) := ⟨a.toNat, by omega⟩
  have x1 : xBin (gI0 fun i j => i + j) (xP (eC (.int 1))) (xCallK fd 0 (xCons (xP (eC (.int 3))) xNil)) [some (dkO dk), some (.d (.int code)), none, none, none, none, none, none, none, none] = .ok (.int ((1 + c : Nat) : Int), [some (dkO dk1), some (.d (.int code)), none, none, none, none, none, none, none, none]) := by
    have x := xCallK_dk (m := fd) (i := 0) (fa := xCons (xP (eC (.int 3))) xNil) (env := [some (dkO dk), some (.d (.int code)), none, none, none, none, none, none, none, none]) (env1 := [some (dkO dk), some (.d (.int code)), none, none, none, none, none, none, none, none]) (ds := [.int 3]) (dk0 := dk) (dk := dk) rfl (by simp) rfl e1
    have g0 : (gI0 fun i j => i + j) (.int 1) (.int (c : Nat)) = some (.int ((1 + c : Nat) : Int)) := by
      show some (PyData.int (1 + (c : Int))) = _
      rw [show ((1 + c : Nat) : Int) = 1 + (c : Int) from by omega]
    rw [xBin_eq]
    simp only [xP_eq, eC_eq, R.bind_ok, x, g0, R.of_some]
    rfl
  have s1 := sXSet_of (i := 2) x1 (by show 2 < 10; decide)
  have x2 : xBin gMul (xCallK fd 0 (xCons (xP (eC (.int 2))) xNil)) (xP (eC (.int 3))) [some (dkO dk1), some (.d (.int code)), some (.d (.int ((1 + c : Nat) : Int))), none, none, none, none, none, none, none] = .ok (.int ((a * 3 : Nat) : Int), [some (dkO dk2), some (.d (.int code)), some (.d (.int ((1 + c : Nat) : Int))), none, none, none, none, none, none, none]) := by
    have x := xCallK_dk (m := fd) (i := 0) (fa := xCons (xP (eC (.int 2))) xNil) (env := [some (dkO dk1), some (.d (.int code)), some (.d (.int ((1 + c : Nat) : Int))), none, none, none, none, none, none, none]) (env1 := [some (dkO dk1), some (.d (.int code)), some (.d (.int ((1 + c : Nat) : Int))), none, none, none, none, none, none, none]) (ds := [.int 2]) (dk0 := dk1) (dk := dk1) rfl (by simp) rfl e2
    have g0 : gMul (.int (a : Nat)) (.int 3) = some (.int ((a * 3 : Nat) : Int)) := by
      rw [gMul_by (by omega) (by omega), Int.natCast_mul]
      rfl
    rw [xBin_eq, x]
    simp only [xP_eq, eC_eq, R.bind_ok, g0, R.of_some]
    rfl
  have s2 := sXSet_of (i := 3) x2 (by show 3 < 10; decide)
  have w0 : wdO [] = .l [] := rfl
  have s3 : sSet 4 (eLst aNil) [some (dkO dk2), some (.d (.int code)), some (.d (.int ((1 + c : Nat) : Int))), some (.d (.int ((a * 3 : Nat) : Int))), none, none, none, none, none, none] = .nx [some (dkO dk2), some (.d (.int code)), some (.d (.int ((1 + c : Nat) : Int))), some (.d (.int ((a * 3 : Nat) : Int))), some (wdO []), none, none, none, none, none] := by
    rw [w0]
    simp [sizeLine_eq]
  obtain ⟨env', lp, w, dk3, x5, x6, x7, x8, e, hl, ha, hr⟩ := forL_ind (g := gtName 5) (f := woodB fd fn) (rangeD 0 (1 + c))
    (fun i env => ∃ (w : Wood) (dk3 : List Int) (x5 x6 x7 x8 : Option Ow), env = [some (dkO dk3), some (.d (.int code)), some (.d (.int ((1 + c : Nat) : Int))), some (.d (.int ((a * 3 : Nat) : Int))), some (wdO w), x5, x6, x7, x8, none] ∧ w.length = i ∧ (∀ (k : Nat) p, w[k]? = some p → p.1 = kn k) ∧ ∀ p ∈ w, (p.2.length ≤ 3 ∧ (∃ r ∈ p.2, r.br = []) ∧ ∀ r ∈ p.2, RwOk (1 + c) kn r) ∧ RwNm kn p.2) (fun i d env hdd hI => by
      obtain ⟨w, dk3, x5, x6, x7, x8, he, hl, ha, hr⟩ := hI
      obtain ⟨hi, ed⟩ := rangeD_at hdd
      rw [Int.zero_add] at ed
      subst ed he
      obtain ⟨rows, dk4, y6, y7, y8, hrow, e⟩ := woodB_ok (fd := fd) (fn := fn) (code := code) (kn := kn) hd hk (1 + c) (a * 3) i (by omega) (by omega) (by omega) w (by omega) x6 x7 x8 dk3
      refine ⟨_, rfl, _, .inl e, w ++ [(kn i, rows)], dk4, _, y6, y7, y8, rfl, by simp [hl], fun k p hp => ?_, fun p hp => ?_⟩
      · by_cases hkl : k < w.length
        · rw [List.getElem?_append_left hkl] at hp
          exact ha k p hp
        · have := (List.getElem?_eq_some_iff.mp hp).1
          have ek : k = w.length := by simp at this; omega
          subst ek
          simp at hp
          subst hp
          rw [hl]
      · rcases List.mem_append.mp hp with h | h
        · exact hr p h
        · rw [List.mem_singleton] at h
          rw [h]; exact hrow) [some (dkO dk2), some (.d (.int code)), some (.d (.int ((1 + c : Nat) : Int))), some (.d (.int ((a * 3 : Nat) : Int))), some (wdO []), none, none, none, none, none]
    ⟨[], dk2, none, none, none, none, rfl, rfl, fun k p h => by simp at h, fun p h => by cases h⟩
  subst e
  rw [rangeD_len] at hl
  refine ⟨w, kn, dk3, ⟨by omega, by omega, fun k h => (hk k h).2, ha, fun p hp => by rw [hl]; exact (hr p hp).1, fun p hp => (hr p hp).2⟩, fun k h => (hk k h).1, ?_⟩
  refine finK_step s1 (finK_step s2 (finK_step s3 (finK_step (env1 := [some (dkO dk3), some (.d (.int code)), some (.d (.int ((1 + c : Nat) : Int))), some (.d (.int ((a * 3 : Nat) : Int))), some (wdO w), x5, x6, x7, x8, none]) ?_ ?_)))
  · show sFor _ _ _ [some (dkO dk2), some (.d (.int code)), some (.d (.int ((1 + c : Nat) : Int))), some (.d (.int ((a * 3 : Nat) : Int))), some (wdO []), none, none, none, none, none] = _
    rw [sFor_eq]
    have e3 : (eB (aCons (eVar 2) aNil) rg1) [some (dkO dk2), some (.d (.int code)), some (.d (.int ((1 + c : Nat) : Int))), some (.d (.int ((a * 3 : Nat) : Int))), some (wdO []), none, none, none, none, none] = .ok (rangeD 0 (1 + c)) := by
      have := rg1_nat (1 + c) (by omega)
      generalize ((1 + c : Nat) : Int) = C at this
      simp [this]
    rw [e3, R.st_ok]
    exact lp
  · rw [frz_of (o := wdO w) rfl, viewD_wdO]
    rw [← finK_dk _ dk3 [some (.d (.int code)), some (.d (.int ((1 + c : Nat) : Int))), some (.d (.int ((a * 3 : Nat) : Int))), some (.d (encWd w)), x5, x6, x7, x8, none]]
    rfl
end
end
end Mir
set_option Elab.async false
set_option linter.all false
set_option maxRecDepth 100000
set_option maxHeartbeats 4000000
namespace Mir
open PySem PySem.Spec L2
noncomputable section
abbrev lrC : Ev → R Bool := (eB (eBin gEq (eVar 2) (eVar 1)) asB)
abbrev bLawRows : Ev → SR := (sRet (eM (eBin gIx (eB (eLc (eB (eVar 0) itD) (gtTup 2 (gtCons (gtName 2) (gtCons (gtName 3) gtNil))) lrC (eM (eVar 3) Ow.d) [2, 3]) shD) (eC (.int 0))) Ow.d))
theorem rowsOf_first : ∀ (w : Wood) (k : Str), (∃ p ∈ w, p.1 = k) → ∃ p, (w.filter fun p => p.1 == k)[0]? = some p ∧ p.2 = rowsOf w k ∧ p ∈ w
  | [], k, h => by obtain ⟨p, hp, _⟩ := h; cases hp
  | p :: w, k, h => by
    cases c : p.1 == k with
    | true =>
      refine ⟨p, by rw [List.filter_cons_of_pos (by simpa using c)]; rfl, by rw [rowsOf, c]; rfl, List.mem_cons_self⟩
    | false =>
      obtain ⟨q, hq, e⟩ := h
      have hq' : q ∈ w := by
        rcases List.mem_cons.mp hq with rfl | h
        · rw [e] at c; simp at c
        · exact h
      obtain ⟨r, h1, h2, h3⟩ := rowsOf_first w k ⟨q, hq', e⟩
      exact ⟨r, by rw [List.filter_cons_of_neg (by simp [c])]; exact h1, by rw [rowsOf, c]; exact h2, List.mem_cons_of_mem _ h3⟩
theorem lawRows_fin (w : Wood) (hl : w.length ≤ 1000) (k : Str) (hk : ∃ p ∈ w, p.1 = k) : finR (bLawRows (envOf 2 [encWd w, .str k])) = .ok (.d (.list ((rowsOf w k).map encRw))) := by
  have he : envOf 2 [encWd w, .str k] = [some (.d (encWd w)), some (.d (.str k)), none, none] := rfl
  rw [he]
  have loop : ∀ v : Wood, lcR (gtTup 2 (gtCons (gtName 2) (gtCons (gtName 3) gtNil))) lrC (eM (eVar 3) Ow.d) [some (.d (encWd w)), some (.d (.str k)), none, none] (v.map encKd) = .ok ((v.filter fun p => p.1 == k).map fun p => .d (.list (p.2.map encRw))) := fun v => by
    induction v with
    | nil => rfl
    | cons p v ih =>
      have g : gtTup 2 (gtCons (gtName 2) (gtCons (gtName 3) gtNil)) (encKd p) [some (.d (encWd w)), some (.d (.str k)), none, none] = some [some (.d (encWd w)), some (.d (.str k)), some (.d (.str p.1)), some (.d (.list (p.2.map encRw)))] := rfl
      have cc : lrC [some (.d (encWd w)), some (.d (.str k)), some (.d (.str p.1)), some (.d (.list (p.2.map encRw)))] = .ok (p.1 == k) := by
        generalize PyData.list (p.2.map encRw) = RS
        simp [gEq_str]
      have ce : eM (eVar 3) Ow.d [some (.d (encWd w)), some (.d (.str k)), some (.d (.str p.1)), some (.d (.list (p.2.map encRw)))] = .ok (.d (.list (p.2.map encRw))) := by
        generalize PyData.list (p.2.map encRw) = RS
        simp
      rw [List.map_cons]
      unfold lcR
      rw [g]
      simp only [cc, noEx_ok, R.bind_ok]
      cases c : p.1 == k with
      | true =>
        simp only [if_true, ce, R.bind_ok]
        rw [ih, List.filter_cons_of_pos (by simpa using c)]
        rfl
      | false =>
        simp only [Bool.false_eq_true, if_false]
        rw [ih, List.filter_cons_of_neg (by simp [c])]
  have lc : eLc (eB (eVar 0) itD) (gtTup 2 (gtCons (gtName 2) (gtCons (gtName 3) gtNil))) lrC (eM (eVar 3) Ow.d) [2, 3] [some (.d (encWd w)), some (.d (.str k)), none, none] = .ok (.l ((w.filter fun p => p.1 == k).map fun p => .d (.list (p.2.map encRw)))) := by
    refine eLc_of (ds := w.map encKd) ?_ (by rw [List.length_map, sizeLine_eq]; omega) (loop w)
    unfold encWd
    simp
  have sh := unDs_of (fun p : Str × List Rw => PyData.list (p.2.map encRw)) (w.filter fun p => p.1 == k)
  obtain ⟨p, h1, h2, _⟩ := rowsOf_first w k hk
  have ix : gIx (.list ((w.filter fun p => p.1 == k).map fun p => PyData.list (p.2.map encRw))) (.int 0) = some (.list ((rowsOf w k).map encRw)) := by
    show atI _ _ = _
    refine atI_natD (k := 0) ?_
    rw [List.getElem?_map, h1, ← h2]
    rfl
  generalize ((w.filter fun p => p.1 == k).map fun p : Str × List Rw => Ow.d (PyData.list (p.2.map encRw))) = os at lc sh
  generalize ((w.filter fun p => p.1 == k).map fun p : Str × List Rw => PyData.list (p.2.map encRw)) = ds at sh ix
  generalize PyData.list ((rowsOf w k).map encRw) = RS at ix
  simp [lc, sh, ix]
def RuleOk (ks bs : List Str) (t : Trm) : Prop := okM t ∧ levM t ≤ 3 ∧ sizeM t ≤ 9 ∧ ∀ c ∈ callsM t, CallOk ks bs c
structure TnMade (t : Trn) : Prop where
  few : t.modes.length ≤ 4
  one : 1 ≤ t.modes.length
  kind : ∀ p ∈ t.modes, ∃ q ∈ t.wood, q.1 = p.1
  rules : ∀ p ∈ t.modes, p.2.length = (rowsOf t.wood p.1).length ∧ ∀ (i : Nat) r u, (rowsOf t.wood p.1)[i]? = some r → p.2[i]? = some u → RuleOk (t.modes.map (·.1)) r.br u
  start : okM t.start ∧ levM t.start ≤ 3
abbrev tnAdd (fd : List D → R Ow) : Ev → SR := (sXApp 3 (xBin gIx (xBin gIx (xP (eVar 2)) (xCallK fd 0 (xCons (xP (eM (eCa gLen (aCons (eVar 2) aNil)) viewD)) xNil))) (xP (eC (.int 0)))))
abbrev tnRow (fru fca : List D → R Ow) : Ev → SR := (sFrz 3 (sXApp 8 (xCallK fru 0 (xCons (xP (eVar 1)) (xCons (xP (eVar 7)) (xCons (xP (eM (eB (aCons (eVar 3) (aCons (eVar 10) aNil)) fca) viewD)) xNil))))))
abbrev tnMode (ft fl fru fca : List D → R Ow) : Ev → SR := (sSeq (sXSet 7 (xCallK ft 0 (xCons (xP (eVar 1)) (xCons (xP (eM (eLst aNil) viewD)) (xCons (xP (eC (.int 2))) xNil)))))
    (sSeq (sSet 8 (eLst aNil))
    (sSeq (sFor (eB (eM (eB (aCons (eVar 2) (aCons (eVar 6) aNil)) fl) viewD) itD) (gtTup 2 (gtCons (gtName 9) (gtCons (gtName 10) gtNil)))
    (tnRow fru fca))
    (sFrz 8 (sApp 5 (eM (eTup (aCons (eVar 6) (aCons (eVar 8) aNil))) Ow.d))))))
abbrev bTurning (fd ft fl fru fca fb : List D → R Ow) : Ev → SR := (sSeq (sSet 3 (eLst (aCons (eBin gIx (eBin gIx (eVar 2) (eC (.int 0))) (eC (.int 0))) aNil)))
    (sSeq (sXFor (xRg1 (xCons (xCallK fd 0 (xCons (xP (eC (.int 4))) xNil)) xNil)) (gtName 4)
    (tnAdd fd))
    (sSeq (sSet 5 (eLst aNil))
    (sSeq (sFrz 3 (sFor (eB (eVar 3) itD) (gtName 6)
    (tnMode ft fl fru fca)))
    (sSeq (sFrz 3 (sXSet 11 (xCallK ft 0 (xCons (xP (eVar 1)) (xCons (xP (eM (eB (aCons (eVar 3) (aCons (eM (eLst (aCons (eBin gIx (eBin gIx (eVar 2) (eC (.int 0))) (eC (.int 0))) aNil)) viewD) aNil)) fca) viewD)) (xCons (xP (eC (.int 1))) xNil))))))
    (sFrz 5 (sRet (eM (eTup (aCons (eVar 2) (aCons (eM (eB (aCons (eVar 11) aNil) fb) viewD) (aCons (eVar 5) aNil)))) Ow.d))))))))
def knO (ks : List Str) : Ow := .l (ks.map fun z => .d (.str z))
theorem knO_data (ks : List Str) : knO ks = .l ((ks.map PyData.str).map Ow.d) := by unfold knO; rw [List.map_map]; rfl
theorem viewD_knO (ks : List Str) : viewD (knO ks) = .list (ks.map PyData.str) := viewD_of PyData.str ks
def moO (ms : List (Str × List Trm)) : Ow := .l (ms.map fun p => .d (encMo p))
theorem viewD_moO (ms : List (Str × List Trm)) : viewD (moO ms) = .list (ms.map encMo) := viewD_of encMo ms
theorem viewD_trO (ps : List Trm) : viewD (trO ps) = .list (ps.map encM) := viewD_of encM ps
/-- what the parts of the drawing promise -/
structure Gens (fd ft fl fru fca fb : List D → R Ow) (code : Int) (w : Wood) : Prop where
  dr : Draws fd
  term : ∀ (cs : List (Int × Int)) (n : Nat), n ≤ 2 → ∀ dk, ∃ t dk', TermIn cs n t ∧ ft (dkD dk :: [.int code, caD cs, .int (n : Nat)]) = tells (encM t) dk'
  rows : ∀ k, (∃ p ∈ w, p.1 = k) → fl [encWd w, .str k] = .ok (.d (.list ((rowsOf w k).map encRw)))
  rule : ∀ (cs : List (Int × Int)) (base : Trm), TermIn [] 2 base → ∀ dk, ∃ t dk', TermIn cs 2 t ∧ fru (dkD dk :: [.int code, encM base, caD cs]) = tells (encM t) dk'
  callsT : ∀ ks bs : List Str, ks.length ≤ 100 → bs.length ≤ 100 → ∃ cs, fca [.list (ks.map PyData.str), .tuple (bs.map PyData.str)] = .ok (caO cs) ∧ ∀ c ∈ cs, CallOk ks bs c
  callsL : ∀ ks bs : List Str, ks.length ≤ 100 → bs.length ≤ 100 → ∃ cs, fca [.list (ks.map PyData.str), .list (bs.map PyData.str)] = .ok (caO cs) ∧ ∀ c ∈ cs, CallOk ks bs c
  bare : ∀ t, okM t → levM t ≤ 10 → fb [encM t] = .ok (.d (encM (bareM t)))
section
variable {fd ft fl fru fca fb : List D → R Ow} {code : Int} {w : Wood}
theorem tnAdd_ok (G : Gens fd ft fl fru fca fb code w) {kn : Nat → Str} (hw : WdOk w kn) (x4 a5 a6 a7 a8 a9 a10 a11 : Option Ow) (ks : List Str) (hk : ks.length ≤ 100) (dk : List Int) :
    ∃ (z : Str) (dk' : List Int), (∃ q ∈ w, q.1 = z) ∧ tnAdd fd [some (dkO dk), some (.d (.int code)), some (.d (encWd w)), some (knO ks), x4, a5, a6, a7, a8, a9, a10, a11] = .nx [some (dkO dk'), some (.d (.int code)), some (.d (encWd w)), some (knO (ks ++ [z])), x4, a5, a6, a7, a8, a9, a10, a11] := by
  have h1 := hw.one
  obtain ⟨r, dk', r0, r1, e⟩ := G.dr dk (w.length : Nat) (by omega)
  obtain ⟨k, rfl⟩ : ∃ k : Nat, r = (k : Int) := ⟨r.toNat, by omega⟩
  have hkl : k < w.length := by omega
  have gl : gLen [encWd w] = some (.d (.int (w.length : Nat))) := by
    have : gLen [encWd w] = some (Ow.d (.int (w.map encKd).length)) := rfl
    rw [this, List.length_map]
  have ix : gIx (encWd w) (.int (k : Nat)) = some (encKd w[k]) := by
    show atI _ _ = _
    exact atI_natD (by rw [List.getElem?_map, List.getElem?_eq_getElem hkl]; rfl)
  have ix2 : gIx (encKd w[k]) (.int 0) = some (.str w[k].1) := by unfold encKd; simp
  refine ⟨w[k].1, dk', ⟨w[k], List.getElem_mem hkl, rfl⟩, ?_⟩
  have x1 : xCallK fd 0 (xCons (xP (eM (eCa gLen (aCons (eVar 2) aNil)) viewD)) xNil) [some (dkO dk), some (.d (.int code)), some (.d (encWd w)), some (knO ks), x4, a5, a6, a7, a8, a9, a10, a11] = .ok (.int (k : Nat), [some (dkO dk'), some (.d (.int code)), some (.d (encWd w)), some (knO ks), x4, a5, a6, a7, a8, a9, a10, a11]) :=
    xCallK_dk (env1 := [some (dkO dk), some (.d (.int code)), some (.d (encWd w)), some (knO ks), x4, a5, a6, a7, a8, a9, a10, a11]) (ds := [.int (w.length : Nat)]) (dk0 := dk) (dk := dk) rfl (by simp [gl]) rfl e
  have x2 : xBin gIx (xBin gIx (xP (eVar 2)) (xCallK fd 0 (xCons (xP (eM (eCa gLen (aCons (eVar 2) aNil)) viewD)) xNil))) (xP (eC (.int 0))) [some (dkO dk), some (.d (.int code)), some (.d (encWd w)), some (knO ks), x4, a5, a6, a7, a8, a9, a10, a11] = .ok (.str w[k].1, [some (dkO dk'), some (.d (.int code)), some (.d (encWd w)), some (knO ks), x4, a5, a6, a7, a8, a9, a10, a11]) := by
    rw [xBin_eq, xBin_eq]
    simp only [xP_eq, eVar_2, R.bind_ok, x1, ix, R.of_some, eC_eq, ix2]
  have := sXApp_of (i := 3) (dk0 := ks.map PyData.str) (dk := ks.map PyData.str) (by rw [← knO_data]; rfl) x2 (by rw [← knO_data]; rfl) (by rw [List.length_map, sizeLine_eq]; omega)
  show sXApp 3 _ [some (dkO dk), some (.d (.int code)), some (.d (encWd w)), some (knO ks), x4, a5, a6, a7, a8, a9, a10, a11] = _
  rw [this, knO_data (ks ++ [w[k].1]), show (ks ++ [w[k].1]).map PyData.str = ks.map PyData.str ++ [.str w[k].1] from by simp]
  rfl
theorem TermIn.rule {ks bs : List Str} {cs : List (Int × Int)} {t : Trm} (h : TermIn cs 2 t) (hc : ∀ c ∈ cs, CallOk ks bs c) : RuleOk ks bs t := ⟨h.1, by have := h.2.1; omega, fitS_2 h.2.2.1, fun c hcc => hc c (h.2.2.2.1 c hcc)⟩
theorem tnRows_ok (G : Gens fd ft fl fru fca fb code w) (ks : List Str) (hks : ks.length ≤ 100) (base : Trm) (hbase : TermIn [] 2 base) (a4 a5 : Option Ow) (kd : Str) (a11 : Option Ow) : ∀ (rows : List Rw) (us : List Trm) (x9 x10 : Option Ow) (dk : List Int), (∀ r ∈ rows, r.br.length ≤ 100) → us.length + rows.length ≤ 1000 →
    ∃ (vs : List Trm) (dk' : List Int) (y9 y10 : Option Ow), vs.length = rows.length ∧ (∀ (i : Nat) r u, rows[i]? = some r → vs[i]? = some u → RuleOk ks r.br u) ∧
      forL (gtTup 2 (gtCons (gtName 9) (gtCons (gtName 10) gtNil))) (tnRow fru fca) (rows.map encRw) [some (dkO dk), some (.d (.int code)), some (.d (encWd w)), some (.d (.list (ks.map PyData.str))), a4, a5, some (.d (.str kd)), some (.d (encM base)), some (trO us), x9, x10, a11] =
        .nx [some (dkO dk'), some (.d (.int code)), some (.d (encWd w)), some (.d (.list (ks.map PyData.str))), a4, a5, some (.d (.str kd)), some (.d (encM base)), some (trO (us ++ vs)), y9, y10, a11]
  | [], us, x9, x10, dk, _, _ => ⟨[], dk, x9, x10, rfl, fun i r u h => by simp at h, by simp [forL]⟩
  | r :: rows, us, x9, x10, dk, hb, hl => by
    obtain ⟨cs, ec, hc⟩ := G.callsT ks r.br hks (hb r List.mem_cons_self)
    obtain ⟨u, dk1, hu, eu⟩ := G.rule cs base hbase dk
    obtain ⟨vs, dk2, y9, y10, h1, h2, h3⟩ := tnRows_ok G ks hks base hbase a4 a5 kd a11 rows (us ++ [u]) (some (.d (.str r.nm))) (some (.d (.tuple (r.br.map PyData.str)))) dk1 (fun q hq => hb q (List.mem_cons_of_mem _ hq)) (by simp at hl ⊢; omega)
    refine ⟨u :: vs, dk2, y9, y10, by simp [h1], fun i q v hq hv => ?_, ?_⟩
    · cases i with
      | zero => simp at hq hv; subst hq hv; exact hu.rule hc
      | succ i => exact h2 i q v (by simpa using hq) (by simpa using hv)
    · have g : gtTup 2 (gtCons (gtName 9) (gtCons (gtName 10) gtNil)) (encRw r) [some (dkO dk), some (.d (.int code)), some (.d (encWd w)), some (.d (.list (ks.map PyData.str))), a4, a5, some (.d (.str kd)), some (.d (encM base)), some (trO us), x9, x10, a11] = some [some (dkO dk), some (.d (.int code)), some (.d (encWd w)), some (.d (.list (ks.map PyData.str))), a4, a5, some (.d (.str kd)), some (.d (encM base)), some (trO us), some (.d (.str r.nm)), some (.d (.tuple (r.br.map PyData.str))), a11] := rfl
      have vc := viewD_caO cs
      have st : tnRow fru fca [some (dkO dk), some (.d (.int code)), some (.d (encWd w)), some (.d (.list (ks.map PyData.str))), a4, a5, some (.d (.str kd)), some (.d (encM base)), some (trO us), some (.d (.str r.nm)), some (.d (.tuple (r.br.map PyData.str))), a11] = .nx [some (dkO dk1), some (.d (.int code)), some (.d (encWd w)), some (.d (.list (ks.map PyData.str))), a4, a5, some (.d (.str kd)), some (.d (encM base)), some (trO (us ++ [u])), some (.d (.str r.nm)), some (.d (.tuple (r.br.map PyData.str))), a11] := by
        show sFrz 3 _ _ = _
        rw [frz_of (o := .d (.list (ks.map PyData.str))) rfl]
        have x1 : xCallK fru 0 (xCons (xP (eVar 1)) (xCons (xP (eVar 7)) (xCons (xP (eM (eB (aCons (eVar 3) (aCons (eVar 10) aNil)) fca) viewD)) xNil))) [some (dkO dk), some (.d (.int code)), some (.d (encWd w)), some (.d (.list (ks.map PyData.str))), a4, a5, some (.d (.str kd)), some (.d (encM base)), some (trO us), some (.d (.str r.nm)), some (.d (.tuple (r.br.map PyData.str))), a11] = .ok (encM u, [some (dkO dk1), some (.d (.int code)), some (.d (encWd w)), some (.d (.list (ks.map PyData.str))), a4, a5, some (.d (.str kd)), some (.d (encM base)), some (trO us), some (.d (.str r.nm)), some (.d (.tuple (r.br.map PyData.str))), a11]) :=
          xCallK_dk (env1 := [some (dkO dk), some (.d (.int code)), some (.d (encWd w)), some (.d (.list (ks.map PyData.str))), a4, a5, some (.d (.str kd)), some (.d (encM base)), some (trO us), some (.d (.str r.nm)), some (.d (.tuple (r.br.map PyData.str))), a11]) (ds := [.int code, encM base, caD cs]) (dk0 := dk) (dk := dk) rfl (by
            generalize PyData.list (ks.map PyData.str) = KS at ec
            generalize PyData.tuple (r.br.map PyData.str) = BS at ec
            generalize caO cs = CO at ec vc
            simp [ec, vc]) rfl eu
        have := sXApp_of (i := 8) (dk0 := us.map encM) (dk := us.map encM) (by rw [← trO_data]; rfl) x1 (by rw [← trO_data]; rfl) (by rw [List.length_map, sizeLine_eq]; simp at hl; omega)
        show sXApp 8 _ [some (dkO dk), some (.d (.int code)), some (.d (encWd w)), some (.d (.list (ks.map PyData.str))), a4, a5, some (.d (.str kd)), some (.d (encM base)), some (trO us), some (.d (.str r.nm)), some (.d (.tuple (r.br.map PyData.str))), a11] = _
        rw [this, trO_data (us ++ [u]), show (us ++ [u]).map encM = us.map encM ++ [encM u] from by simp]
        rfl
      rw [List.map_cons, forL, g]
      simp only [st]
      rw [h3]
      simp
theorem rowsOf_mem {w : Wood} {k : Str} (hk : ∃ p ∈ w, p.1 = k) : ∃ p ∈ w, p.2 = rowsOf w k := by
  obtain ⟨p, _, h2, h3⟩ := rowsOf_first w k hk
  exact ⟨p, h3, h2⟩
theorem tnMode_ok (G : Gens fd ft fl fru fca fb code w) {kn : Nat → Str} (hw : WdOk w kn) (ks : List Str) (hks : ks.length ≤ 100) (kd : Str) (hkd : ∃ p ∈ w, p.1 = kd) (ms : List (Str × List Trm)) (hms : ms.length ≤ 100) (a4 x7 x8 x9 x10 a11 : Option Ow) (dk : List Int) :
    ∃ (us : List Trm) (dk' : List Int) (y7 y8 y9 y10 : Option Ow), us.length = (rowsOf w kd).length ∧ (∀ (i : Nat) r u, (rowsOf w kd)[i]? = some r → us[i]? = some u → RuleOk ks r.br u) ∧
      tnMode ft fl fru fca [some (dkO dk), some (.d (.int code)), some (.d (encWd w)), some (.d (.list (ks.map PyData.str))), a4, some (moO ms), some (.d (.str kd)), x7, x8, x9, x10, a11] =
        .nx [some (dkO dk'), some (.d (.int code)), some (.d (encWd w)), some (.d (.list (ks.map PyData.str))), a4, some (moO (ms ++ [(kd, us)])), some (.d (.str kd)), y7, y8, y9, y10, a11] := by
  obtain ⟨base, dk1, hb, eb⟩ := G.term [] 2 (Nat.le_refl _) dk
  have er := G.rows kd hkd
  obtain ⟨q, hq, eq⟩ := rowsOf_mem hkd
  obtain ⟨q1, q2, q3⟩ := hw.rows q hq
  rw [eq] at q1 q2 q3
  have ca0 : caD [] = .list [] := rfl
  rw [ca0] at eb
  have vn : viewD (.l []) = .list [] := by simp
  have x1 : xCallK ft 0 (xCons (xP (eVar 1)) (xCons (xP (eM (eLst aNil) viewD)) (xCons (xP (eC (.int 2))) xNil))) [some (dkO dk), some (.d (.int code)), some (.d (encWd w)), some (.d (.list (ks.map PyData.str))), a4, some (moO ms), some (.d (.str kd)), x7, x8, x9, x10, a11] = .ok (encM base, [some (dkO dk1), some (.d (.int code)), some (.d (encWd w)), some (.d (.list (ks.map PyData.str))), a4, some (moO ms), some (.d (.str kd)), x7, x8, x9, x10, a11]) :=
    xCallK_dk (env1 := [some (dkO dk), some (.d (.int code)), some (.d (encWd w)), some (.d (.list (ks.map PyData.str))), a4, some (moO ms), some (.d (.str kd)), x7, x8, x9, x10, a11]) (ds := [.int code, .list [], .int 2]) (dk0 := dk) (dk := dk) rfl (by simp [vn, sizeLine_eq]) rfl eb
  have s1 := sXSet_of (i := 7) x1 (by show 7 < 12; decide)
  obtain ⟨us, dk2, y9, y10, h1, h2, h3⟩ := tnRows_ok G ks hks base hb a4 (some (moO ms)) kd a11 (rowsOf w kd) [] x9 x10 dk1 (fun r hr => by have := (q3 r hr).2.1; omega) (by simp; omega)
  rw [List.nil_append] at h3
  have t0 : trO [] = .l [] := rfl
  refine ⟨us, dk2, some (.d (encM base)), some (.d (.list (us.map encM))), y9, y10, h1, h2, seq_nx s1 ?_⟩
  refine seq_nx (env1 := [some (dkO dk1), some (.d (.int code)), some (.d (encWd w)), some (.d (.list (ks.map PyData.str))), a4, some (moO ms), some (.d (.str kd)), some (.d (encM base)), some (trO []), x9, x10, a11]) (by
    show sSet 8 (eLst aNil) [some (dkO dk1), some (.d (.int code)), some (.d (encWd w)), some (.d (.list (ks.map PyData.str))), a4, some (moO ms), some (.d (.str kd)), some (.d (encM base)), x8, x9, x10, a11] = _
    rw [t0]
    simp [sizeLine_eq]) ?_
  refine seq_nx (env1 := [some (dkO dk2), some (.d (.int code)), some (.d (encWd w)), some (.d (.list (ks.map PyData.str))), a4, some (moO ms), some (.d (.str kd)), some (.d (encM base)), some (trO us), y9, y10, a11]) (by
    rw [sFor_eq]
    have e3 : (eB (eM (eB (aCons (eVar 2) (aCons (eVar 6) aNil)) fl) viewD) itD) [some (dkO dk1), some (.d (.int code)), some (.d (encWd w)), some (.d (.list (ks.map PyData.str))), a4, some (moO ms), some (.d (.str kd)), some (.d (encM base)), some (trO []), x9, x10, a11] = .ok ((rowsOf w kd).map encRw) := by
      generalize (rowsOf w kd).map encRw = RS at er
      simp [er]
    rw [e3, R.st_ok]
    exact h3) ?_
  rw [frz_of (o := trO us) rfl, viewD_trO]
  have al : (ms.map fun p => Ow.d (encMo p)).length < 16777216 := by rw [List.length_map]; omega
  have am : (ms.map fun p => Ow.d (encMo p)) ++ [Ow.d (.tuple [.str kd, .list (us.map encM)])] = (ms ++ [(kd, us)]).map fun p => Ow.d (encMo p) := by simp [encMo]
  unfold moO
  rw [← am]
  generalize (ms.map fun p => Ow.d (encMo p)) = os at al
  generalize us.map encM = UM
  simp [sizeLine_eq, al]
theorem turning_fin (G : Gens fd ft fl fru fca fb code w) {kn : Nat → Str} (hw : WdOk w kn) (dk : List Int) :
    ∃ (t : Trn) (dk' : List Int), t.wood = w ∧ TnMade t ∧ finK (bTurning fd ft fl fru fca fb (some (dkO dk) :: envOf 9 [.int code, encWd w])) = tells (encTn t) dk' := by
  have he : (some (dkO dk) :: envOf 9 [.int code, encWd w]) = [some (dkO dk), some (.d (.int code)), some (.d (encWd w)), none, none, none, none, none, none, none, none, none] := rfl
  rw [he]
  have h1 := hw.one
  obtain ⟨p0, hp0⟩ : ∃ p, w[0]? = some p := ⟨_, List.getElem?_eq_getElem (by omega)⟩
  have i0 : gIx (encWd w) (.int 0) = some (encKd p0) := by
    show atI _ _ = _
    exact atI_natD (k := 0) (by rw [List.getElem?_map, hp0]; rfl)
  have i00 : gIx (encKd p0) (.int 0) = some (.str p0.1) := by unfold encKd; simp
  have hp0m : p0 ∈ w := List.mem_of_getElem? hp0
  have k1 : knO [p0.1] = .l [.d (.str p0.1)] := rfl
  obtain ⟨m, dk1, m0, m1, e1⟩ := G.dr dk 4 (by decide)
  obtain ⟨m, rfl⟩ : ∃ n : Nat, m = (n : Int) := ⟨m.toNat, by omega⟩
  have xi : xRg1 (xCons (xCallK fd 0 (xCons (xP (eC (.int 4))) xNil)) xNil) [some (dkO dk), some (.d (.int code)), some (.d (encWd w)), some (knO [p0.1]), none, none, none, none, none, none, none, none] = .ok (rangeD 0 m, [some (dkO dk1), some (.d (.int code)), some (.d (encWd w)), some (knO [p0.1]), none, none, none, none, none, none, none, none]) := by
    have x := xCallK_dk (m := fd) (i := 0) (fa := xCons (xP (eC (.int 4))) xNil) (env := [some (dkO dk), some (.d (.int code)), some (.d (encWd w)), some (knO [p0.1]), none, none, none, none, none, none, none, none]) (env1 := [some (dkO dk), some (.d (.int code)), some (.d (encWd w)), some (knO [p0.1]), none, none, none, none, none, none, none, none]) (ds := [.int 4]) (dk0 := dk) (dk := dk) rfl (by simp) rfl e1
    rw [xRg1_eq, xCons_eq, x]
    simp [rg1_nat m (by omega)]
  obtain ⟨env', lp, ks, dk2, x4, e, hl, hk⟩ := forL_ind (g := gtName 4) (f := tnAdd fd) (rangeD 0 m)
    (fun i env => ∃ (ks : List Str) (dk2 : List Int) (x4 : Option Ow), env = [some (dkO dk2), some (.d (.int code)), some (.d (encWd w)), some (knO ks), x4, none, none, none, none, none, none, none] ∧ ks.length = i + 1 ∧ ∀ z ∈ ks, ∃ q ∈ w, q.1 = z) (fun i d env hdd hI => by
      obtain ⟨ks, dk2, x4, he, hl, hk⟩ := hI
      obtain ⟨hi, ed⟩ := rangeD_at hdd
      rw [Int.zero_add] at ed
      subst ed he
      obtain ⟨z, dk3, hz, e⟩ := tnAdd_ok G hw (some (.d (.int (i : Nat)))) none none none none none none none ks (by omega) dk2
      refine ⟨_, rfl, _, .inl e, ks ++ [z], dk3, _, rfl, by simp [hl], fun y hy => ?_⟩
      rcases List.mem_append.mp hy with h | h
      · exact hk y h
      · rw [List.mem_singleton] at h
        rw [h]; exact hz) [some (dkO dk1), some (.d (.int code)), some (.d (encWd w)), some (knO [p0.1]), none, none, none, none, none, none, none, none]
    ⟨[p0.1], dk1, none, rfl, rfl, fun z hz => by rw [List.mem_singleton] at hz; exact ⟨p0, hp0m, hz.symm⟩⟩
  subst e
  rw [rangeD_len] at hl
  have m0' : moO [] = .l [] := rfl
  -- the modes
  obtain ⟨env', lp2, ms, dk3, x6, x7, x8, x9, x10, e, hl2, hm⟩ := forL_map (g := gtName 6) (f := tnMode ft fl fru fca) PyData.str ks
    (fun i env => ∃ (ms : List (Str × List Trm)) (dk3 : List Int) (x6 x7 x8 x9 x10 : Option Ow), env = [some (dkO dk3), some (.d (.int code)), some (.d (encWd w)), some (.d (.list (ks.map PyData.str))), x4, some (moO ms), x6, x7, x8, x9, x10, none] ∧ ms.map (·.1) = ks.take i ∧ ∀ p ∈ ms, (∃ q ∈ w, q.1 = p.1) ∧ p.2.length = (rowsOf w p.1).length ∧ ∀ (i : Nat) r u, (rowsOf w p.1)[i]? = some r → p.2[i]? = some u → RuleOk ks r.br u) (fun i z env hz hI => by
      obtain ⟨ms, dk3, x6, x7, x8, x9, x10, he, hl2, hm⟩ := hI
      subst he
      have hzm := List.mem_of_getElem? hz
      have il := (List.getElem?_eq_some_iff.mp hz).1
      have msl : ms.length = i := by
        have := congrArg List.length hl2
        rw [List.length_map, List.length_take] at this
        omega
      obtain ⟨us, dk4, y7, y8, y9, y10, u1, u2, e⟩ := tnMode_ok G hw ks (by omega) z (hk z hzm) ms (by omega) x4 x7 x8 x9 x10 none dk3
      refine ⟨_, rfl, _, .inl e, ms ++ [(z, us)], dk4, _, y7, y8, y9, y10, rfl, ?_, fun p hp => ?_⟩
      · rw [List.map_append, hl2, List.take_add_one, hz]
        rfl
      · rcases List.mem_append.mp hp with h | h
        · exact hm p h
        · rw [List.mem_singleton] at h
          rw [h]
          exact ⟨hk z hzm, u1, u2⟩) [some (dkO dk2), some (.d (.int code)), some (.d (encWd w)), some (.d (.list (ks.map PyData.str))), x4, some (moO []), none, none, none, none, none, none]
    ⟨[], dk2, none, none, none, none, none, rfl, rfl, fun p h => by cases h⟩
  subst e
  rw [List.take_length] at hl2
  have msl : ms.length = ks.length := by
    have := congrArg List.length hl2
    rw [List.length_map] at this
    exact this
  -- the start
  obtain ⟨cs, ec, hc⟩ := G.callsL ks [p0.1] (by omega) (by simp)
  obtain ⟨st, dk4, hst, est⟩ := G.term cs 1 (by decide) dk3
  have eba := G.bare st hst.1 (by have := hst.2.1; omega)
  have vc := viewD_caO cs
  have x11 : xCallK ft 0 (xCons (xP (eVar 1)) (xCons (xP (eM (eB (aCons (eVar 3) (aCons (eM (eLst (aCons (eBin gIx (eBin gIx (eVar 2) (eC (.int 0))) (eC (.int 0))) aNil)) viewD) aNil)) fca) viewD)) (xCons (xP (eC (.int 1))) xNil))) [some (dkO dk3), some (.d (.int code)), some (.d (encWd w)), some (.d (.list (ks.map PyData.str))), x4, some (moO ms), x6, x7, x8, x9, x10, none] = .ok (encM st, [some (dkO dk4), some (.d (.int code)), some (.d (encWd w)), some (.d (.list (ks.map PyData.str))), x4, some (moO ms), x6, x7, x8, x9, x10, none]) :=
    xCallK_dk (env1 := [some (dkO dk3), some (.d (.int code)), some (.d (encWd w)), some (.d (.list (ks.map PyData.str))), x4, some (moO ms), x6, x7, x8, x9, x10, none]) (ds := [.int code, caD cs, .int 1]) (dk0 := dk3) (dk := dk3) rfl (by
      have vl : viewD (.l [.d (.str p0.1)]) = .list ([p0.1].map PyData.str) := viewD_of PyData.str [p0.1]
      generalize PyData.list ([p0.1].map PyData.str) = BS at ec vl
      generalize PyData.list (ks.map PyData.str) = KS at ec
      generalize caO cs = CO at ec vc
      simp [i0, i00, vl, ec, vc, sizeLine_eq]) rfl est
  have s11 := sXSet_of (i := 11) x11 (by show 11 < 12; decide)
  refine ⟨⟨w, bareM st, ms⟩, dk4, rfl, ⟨by show ms.length ≤ 4; omega, by show 1 ≤ ms.length; omega, fun p hp => (hm p hp).1, fun p hp => ?_, ⟨ok_bareM st hst.1, by show levM (bareM st) ≤ 3; rw [lev_bareM]; have := hst.2.1; omega⟩⟩, ?_⟩
  · show p.2.length = (rowsOf w p.1).length ∧ ∀ (i : Nat) r u, (rowsOf w p.1)[i]? = some r → p.2[i]? = some u → RuleOk (ms.map (·.1)) r.br u
    rw [hl2]
    exact (hm p hp).2
  · refine finK_step (env1 := [some (dkO dk), some (.d (.int code)), some (.d (encWd w)), some (knO [p0.1]), none, none, none, none, none, none, none, none]) (by rw [k1]; simp [i0, i00, sizeLine_eq]) ?_
    refine finK_step (env1 := [some (dkO dk2), some (.d (.int code)), some (.d (encWd w)), some (knO ks), x4, none, none, none, none, none, none, none]) (by rw [sXFor_of xi]; exact lp) ?_
    refine finK_step (env1 := [some (dkO dk2), some (.d (.int code)), some (.d (encWd w)), some (knO ks), x4, some (moO []), none, none, none, none, none, none]) (by rw [m0']; simp [sizeLine_eq]) ?_
    refine finK_step (env1 := [some (dkO dk3), some (.d (.int code)), some (.d (encWd w)), some (.d (.list (ks.map PyData.str))), x4, some (moO ms), x6, x7, x8, x9, x10, none]) ?_ ?_
    · rw [frz_of (o := knO ks) rfl, viewD_knO]
      show sFor _ _ _ [some (dkO dk2), some (.d (.int code)), some (.d (encWd w)), some (.d (.list (ks.map PyData.str))), x4, some (moO []), none, none, none, none, none, none] = _
      rw [sFor_eq]
      have e3 : (eB (eVar 3) itD) [some (dkO dk2), some (.d (.int code)), some (.d (encWd w)), some (.d (.list (ks.map PyData.str))), x4, some (moO []), none, none, none, none, none, none] = .ok (ks.map PyData.str) := by simp
      rw [e3, R.st_ok]
      exact lp2
    · refine finK_step (env1 := [some (dkO dk4), some (.d (.int code)), some (.d (encWd w)), some (.d (.list (ks.map PyData.str))), x4, some (moO ms), x6, x7, x8, x9, x10, some (.d (encM st))]) (by rw [frz_of (o := .d (.list (ks.map PyData.str))) rfl]; exact s11) ?_
      rw [frz_of (o := moO ms) rfl, viewD_moO]
      rw [← finK_dk _ dk4 [some (.d (.int code)), some (.d (encWd w)), some (.d (.list (ks.map PyData.str))), x4, some (.d (.list (ms.map encMo))), x6, x7, x8, x9, x10, some (.d (encM st))]]
      congr 1
      unfold encTn
      show (sRet (eM (eTup (aCons (eVar 2) (aCons (eM (eB (aCons (eVar 11) aNil) fb) viewD) (aCons (eVar 5) aNil)))) Ow.d)) [some (dkO dk4), some (.d (.int code)), some (.d (encWd w)), some (.d (.list (ks.map PyData.str))), x4, some (.d (.list (ms.map encMo))), x6, x7, x8, x9, x10, some (.d (encM st))] = _
      generalize PyData.list (ms.map encMo) = MM
      simp [eba, sizeLine_eq]
end
end
end Mir
set_option Elab.async false
set_option linter.all false
set_option maxRecDepth 100000
set_option maxHeartbeats 4000000
namespace Mir
open PySem PySem.Spec L2
theorem rowsOf_in {w : Wood} {k : Str} : ∀ r ∈ rowsOf w k, ∃ p ∈ w, r ∈ p.2 := by
  induction w with
  | nil => intro r h; cases h
  | cons p w ih =>
    intro r h
    rw [rowsOf] at h
    cases c : p.1 == k with
    | true => rw [c] at h; exact ⟨p, List.mem_cons_self, h⟩
    | false =>
      rw [c] at h
      obtain ⟨q, h1, h2⟩ := ih r h
      exact ⟨q, List.mem_cons_of_mem _ h1, h2⟩
theorem TnMade.ok {t : Trn} {kn : Nat → Str} (m : TnMade t) (hw : WdOk t.wood kn) : TnOk t := by
  have kl : (t.modes.map (·.1)).length = t.modes.length := List.length_map _
  have each : ∀ p ∈ t.modes, ∀ u ∈ p.2, ∃ r ∈ rowsOf t.wood p.1, RuleOk (t.modes.map (·.1)) r.br u := fun p hp u hu => by
    obtain ⟨i, hi, e⟩ := List.mem_iff_getElem.mp hu
    obtain ⟨h1, h2⟩ := m.rules p hp
    have hi' : i < (rowsOf t.wood p.1).length := by omega
    exact ⟨_, List.getElem_mem hi', h2 i _ u (List.getElem?_eq_getElem hi') (by rw [List.getElem?_eq_getElem hi, e])⟩
  have rl : ∀ p ∈ t.modes, (rowsOf t.wood p.1).length ≤ 3 ∧ ∃ r ∈ rowsOf t.wood p.1, r.br = [] := fun p hp => by
    obtain ⟨q, q1, q2⟩ := rowsOf_mem (m.kind p hp)
    obtain ⟨a, b, _⟩ := hw.rows q q1
    rw [q2] at a b
    exact ⟨a, b⟩
  have wl := hw.few
  refine ⟨by have := m.few; omega, m.one, fun p hp => ⟨(m.rules p hp).1, by have := (m.rules p hp).1; have := (rl p hp).1; omega⟩, fun p hp => ?_, fun p hp u hu => ?_, fun p hp => ?_, by omega, m.start.1, by have := m.start.2; omega⟩
  · -- bare rows
    obtain ⟨h1, h2⟩ := m.rules p hp
    constructor
    · rw [bares_zip]
      obtain ⟨_, r, hr, hb⟩ := rl p hp
      obtain ⟨i, hi, e⟩ := List.mem_iff_getElem.mp hr
      intro z
      have z2 : ((rowsOf t.wood p.1).zip p.2).filter (fun q => q.1.br.isEmpty) = [] := by simpa using z
      have hm : (r, p.2[i]'(by omega)) ∈ ((rowsOf t.wood p.1).zip p.2).filter (fun q => q.1.br.isEmpty) := by
        refine List.mem_filter.mpr ⟨?_, by show r.br.isEmpty = true; rw [hb]; rfl⟩
        refine List.mem_iff_getElem.mpr ⟨i, by rw [List.length_zip]; omega, ?_⟩
        rw [List.getElem_zip, e]
      rw [z2] at hm
      cases hm
    · intro u hu
      rw [bares_zip] at hu
      obtain ⟨q, hq, rfl⟩ := List.mem_map.mp hu
      obtain ⟨q1, q2⟩ := List.mem_filter.mp hq
      obtain ⟨i, hi, e⟩ := List.mem_iff_getElem.mp q1
      rw [List.length_zip] at hi
      rw [List.getElem_zip] at e
      have ok := h2 i q.1 q.2 (by rw [List.getElem?_eq_getElem (by omega), ← e]) (by rw [List.getElem?_eq_getElem (by omega), ← e])
      have bn : q.1.br = [] := by simpa using q2
      cases hc : callsM q.2 with
      | nil => rfl
      | cons c cs =>
        obtain ⟨i, j, _, z, _, hz⟩ := ok.2.2.2 c (by rw [hc]; exact List.mem_cons_self)
        rw [bn] at hz
        simp at hz
  · obtain ⟨r, _, o1, o2, o3, o4⟩ := each p hp u hu
    refine ⟨o1, by omega, by omega, fun c hc => ?_⟩
    obtain ⟨i, j, e, z, hz, _⟩ := o4 c hc
    have := (List.getElem?_eq_some_iff.mp hz).1
    rw [e]
    constructor
    · show (0 : Int) ≤ (i : Int)
      omega
    · show (i : Int) < _
      omega
  · obtain ⟨i, hi, e⟩ := List.mem_iff_getElem.mp hp
    have en := hw.at_ i p (by rw [List.getElem?_eq_getElem hi, e])
    obtain ⟨a, _, c⟩ := hw.rows p hp
    refine ⟨by rw [en]; exact hw.nok i (by omega), by omega, fun r hr => ?_⟩
    obtain ⟨d1, d2, d3⟩ := c r hr
    refine ⟨d1, by omega, fun z hz => ?_⟩
    obtain ⟨j, hj, ez⟩ := d3 z hz
    rw [ez]
    exact hw.nok j (by omega)
theorem nice_encTn {t : Trn} (ok : TnOk t) : Nice (encTn t) := by
  have w1 : (encWd t.wood).canLay0 = true ∧ (encWd t.wood).depth ≤ 10 := by
    unfold encWd
    refine ⟨?_, ?_⟩
    · rw [PyData.canLay0]
      exact canAll_of _ fun d hd => by
        obtain ⟨p, hp, rfl⟩ := List.mem_map.mp hd
        obtain ⟨a, _, c⟩ := ok.names p hp
        have h2 : (PyData.list (p.2.map encRw)).canLay0 = true := by
          rw [PyData.canLay0]
          exact canAll_of _ fun d hd => by
            obtain ⟨r, hr, rfl⟩ := List.mem_map.mp hd
            obtain ⟨c1, _, c3⟩ := c r hr
            have h3 := (nice_strs c3).1
            simp [encRw, PyData.canLay0, PyData.canLayAll0, c1]
            rw [PyData.canLay0] at h3
            exact h3
        simp [encKd, PyData.canLay0, PyData.canLayAll0, a]
        rw [PyData.canLay0] at h2
        exact h2
    · rw [PyData.depth]
      have := depthAll_of (n := 8) (t.wood.map encKd) fun d hd => by
        obtain ⟨p, hp, rfl⟩ := List.mem_map.mp hd
        have := depthAll_of (n := 4) (p.2.map encRw) fun d hd => by
          obtain ⟨r, hr, rfl⟩ := List.mem_map.mp hd
          have := depthAll_of (n := 0) (r.br.map PyData.str) fun d hd => by
            obtain ⟨z, hz, rfl⟩ := List.mem_map.mp hd
            simp [PyData.depth]
          simp only [encRw, PyData.depth, PyData.depthAll]
          omega
        simp only [encKd, PyData.depth, PyData.depthAll]
        omega
      omega
  have s1 : (encM t.start).canLay0 = true ∧ (encM t.start).depth ≤ 20 := ⟨can_encM _ ok.start.1, by have := depth_encM t.start; have := ok.start.2; omega⟩
  have m1 : (PyData.list (t.modes.map encMo)).canLay0 = true ∧ (PyData.list (t.modes.map encMo)).depth ≤ 40 := by
    refine ⟨?_, ?_⟩
    · rw [PyData.canLay0]
      exact canAll_of _ fun d hd => by
        obtain ⟨p, hp, rfl⟩ := List.mem_map.mp hd
        have h2 : (PyData.list (p.2.map encM)).canLay0 = true := by
          rw [PyData.canLay0]
          exact canAll_of _ fun d hd => by
            obtain ⟨r, hr, rfl⟩ := List.mem_map.mp hd
            exact can_encM r (ok.term p hp r hr).1
        have hk : PyData.strOk p.1 = true := by
          obtain ⟨r, hr⟩ : ∃ r, r ∈ rowsOf t.wood p.1 := by
            have hb := (ok.bare p hp).1
            rw [bares_zip] at hb
            cases h : rowsOf t.wood p.1 with
            | nil => rw [h] at hb; exact absurd rfl hb
            | cons r rs => exact ⟨r, List.mem_cons_self⟩
          have : ∀ w : Wood, (∀ q ∈ w, PyData.strOk q.1 = true) → ∀ r ∈ rowsOf w p.1, PyData.strOk p.1 = true := fun w => by
            induction w with
            | nil => intro _ r h; cases h
            | cons q w ih =>
              intro hw r h
              rw [rowsOf] at h
              cases c : q.1 == p.1 with
              | true =>
                have e : q.1 = p.1 := by simpa using c
                rw [← e]; exact hw q List.mem_cons_self
              | false => rw [c] at h; exact ih (fun x hx => hw x (List.mem_cons_of_mem _ hx)) r h
          exact this t.wood (fun q hq => (ok.names q hq).1) r hr
        simp [encMo, PyData.canLay0, PyData.canLayAll0, hk]
        rw [PyData.canLay0] at h2
        exact h2
    · rw [PyData.depth]
      have := depthAll_of (n := 30) (t.modes.map encMo) fun d hd => by
        obtain ⟨p, hp, rfl⟩ := List.mem_map.mp hd
        have := depthAll_of (n := 20) (p.2.map encM) fun d hd => by
          obtain ⟨r, hr, rfl⟩ := List.mem_map.mp hd
          have := depth_encM r
          have := (ok.term p hp r hr).2.1
          omega
        simp only [encMo, PyData.depth, PyData.depthAll]
        omega
      omega
  unfold encTn
  refine ⟨?_, ?_⟩
  · rw [PyData.canLay0]
    simp only [PyData.canLayAll0, w1.1, s1.1, m1.1]
    rfl
  · simp only [PyData.depth, PyData.depthAll]
    have h1 := w1.2
    have h2 := s1.2
    have h3 := m1.2
    simp only [PyData.depth] at h3
    omega
noncomputable section
abbrev bCopy : Ev → SR := (sSeq (sSet 1 (eM (eM (eLc (eB (eBin gIx (eVar 0) (eC (.int 0))) itD) (gtTup 2 (gtCons (gtName 2) (gtCons (gtName 3) gtNil))) cYes (eM (eTup (aCons (eVar 2) (aCons (eM (eCa gList (aCons (eVar 3) aNil)) viewD) aNil))) Ow.d) [2, 3]) viewD) Ow.d))
    (sRet (eM (eTup (aCons (eVar 1) (aCons (eBin gIx (eVar 0) (eC (.int 1))) (aCons (eM (eLc (eB (eBin gIx (eVar 0) (eC (.int 2))) itD) (gtTup 2 (gtCons (gtName 2) (gtCons (gtName 4) gtNil))) cYes (eM (eTup (aCons (eVar 2) (aCons (eM (eCa gList (aCons (eVar 4) aNil)) viewD) aNil))) Ow.d) [2, 4]) viewD) aNil)))) Ow.d)))
theorem gList_ls (ds : List D) : gList [.list ds] = some (.l (ds.map Ow.d)) := rfl
theorem copy_fin {t : Trn} (h1 : t.wood.length ≤ 1000) (h2 : t.modes.length ≤ 1000) : finR (bCopy (envOf 4 [encTn t])) = .ok (.d (encTn t)) := by
  have he : envOf 4 [encTn t] = [some (.d (encTn t)), none, none, none, none] := rfl
  rw [he]
  obtain ⟨T, hT⟩ : ∃ T, T = encTn t := ⟨_, rfl⟩
  have i0 := w_ix0 t
  have i1 := w_ix1 t
  have i2 := w_ix2 t
  rw [← hT] at i0 i1 i2 ⊢
  have lc1 : eLc (eB (eBin gIx (eVar 0) (eC (.int 0))) itD) (gtTup 2 (gtCons (gtName 2) (gtCons (gtName 3) gtNil))) cYes (eM (eTup (aCons (eVar 2) (aCons (eM (eCa gList (aCons (eVar 3) aNil)) viewD) aNil))) Ow.d) [2, 3] [some (.d T), none, none, none, none] = .ok (wdO t.wood) := by
    unfold wdO
    refine eLc_of (ds := t.wood.map encKd) ?_ (by rw [List.length_map, sizeLine_eq]; omega) (lcR_map encKd _ t.wood fun p _ => ⟨[some (.d T), none, some (.d (.str p.1)), some (.d (.list (p.2.map encRw))), none], by simp [wipeE]; rfl, rfl, ?_⟩)
    · unfold encWd at i0
      simp [i0]
    · have gl := gList_ls (p.2.map encRw)
      have vw : viewD (.l ((p.2.map encRw).map Ow.d)) = .list (p.2.map encRw) := by rw [viewD_l, viewAll_mapd]
      unfold encKd
      generalize (p.2.map encRw).map Ow.d = os at gl vw
      generalize p.2.map encRw = ds at gl vw
      simp [gl, vw, sizeLine_eq]
  have lc2 : eLc (eB (eBin gIx (eVar 0) (eC (.int 2))) itD) (gtTup 2 (gtCons (gtName 2) (gtCons (gtName 4) gtNil))) cYes (eM (eTup (aCons (eVar 2) (aCons (eM (eCa gList (aCons (eVar 4) aNil)) viewD) aNil))) Ow.d) [2, 4] [some (.d T), some (.d (encWd t.wood)), none, none, none] = .ok (moO t.modes) := by
    unfold moO
    refine eLc_of (ds := t.modes.map encMo) (by simp [i2]) (by rw [List.length_map, sizeLine_eq]; omega) (lcR_map encMo _ t.modes fun p _ => ⟨[some (.d T), some (.d (encWd t.wood)), some (.d (.str p.1)), none, some (.d (.list (p.2.map encM)))], by simp [wipeE]; rfl, rfl, ?_⟩)
    have gl := gList_ls (p.2.map encM)
    have vw : viewD (.l ((p.2.map encM).map Ow.d)) = .list (p.2.map encM) := by rw [viewD_l, viewAll_mapd]
    unfold encMo
    generalize (p.2.map encM).map Ow.d = os at gl vw
    generalize p.2.map encM = ds at gl vw
    simp [gl, vw, sizeLine_eq]
  have v1 := viewD_wdO t.wood
  have v2 := viewD_moO t.modes
  refine fin_step (env1 := [some (.d T), some (.d (encWd t.wood)), none, none, none]) (by
    generalize wdO t.wood = WO at lc1 v1
    simp [lc1, v1]) ?_
  generalize moO t.modes = MO at lc2 v2
  generalize hM : PyData.list (t.modes.map encMo) = MM at v2
  have eT : T = .tuple [encWd t.wood, encM t.start, MM] := by rw [hT, ← hM]; rfl
  simp [lc2, v2, i1, sizeLine_eq]
  exact eT.symm
theorem nice_open : Nice (.tuple [.str "open"]) := by
  have := nice_encS (s := .op) (by rw [okS]; trivial) (by rw [levS]; omega)
  rw [encS_op] at this
  exact this
theorem open_eq : gEq (.tuple [.str "open"]) (.tuple [.str "open"]) = some (.bool true) := gEq_self nice_open
theorem put_ne_open {nm : Str} {k : Int} {ps : List Stp} (ok : okS (.put nm k ps)) (hl : levS (.put nm k ps) ≤ 60) : gEq (encS (.put nm k ps)) (.tuple [.str "open"]) = some (.bool false) := by
  rw [gEq_nice (nice_encS ok (by omega)) nice_open, encS_put]
  simp [PyData.eqv, PyData.eqvAll]
theorem nice_trip (nm : Str) (k j : Int) (h : PyData.strOk nm = true) : Nice (.tuple [.str nm, .int k, .int j]) := by
  constructor
  · simp [PyData.canLay0, PyData.canLayAll0, h]
  · simp [PyData.depth, PyData.depthAll]
abbrev bIsStump (fw f : List D → R Ow) : Ev → SR := (sSeq (sIf (tOrE (tNotE (eB (eB (eVar 0) (gIsi "tuple")) asB)) (eB (eBin gEq (eM (eCa gLen (aCons (eVar 0) aNil)) viewD) (eC (.int 0))) asB))
    (sRet (eM (eC (.bool false)) Ow.d))
    sSkip)
    (sSeq (sIf (eB (eBin gEq (eVar 0) (eTup (aCons (eC (.str "open")) aNil))) asB)
    (sRet (eM (eC (.bool true)) Ow.d))
    sSkip)
    (sSeq (sIf (tOrE (eB (eBin gNe (eM (eCa gLen (aCons (eVar 0) aNil)) viewD) (eC (.int 4))) asB) (tOrE (eB (eBin gNe (eBin gIx (eVar 0) (eC (.int 0))) (eC (.str "put"))) asB) (tOrE (tNotE (eB (eB (eBin gIx (eVar 0) (eC (.int 1))) (gIsi "str")) asB)) (tNotE (eB (eM (eB (aCons (eBin gIx (eVar 0) (eC (.int 2))) aNil) fw) viewD) asB)))))
    (sRet (eM (eC (.bool false)) Ow.d))
    sSkip)
    (sSeq (sIf (tNotE (eB (eB (eBin gIx (eVar 0) (eC (.int 3))) (gIsi "tuple")) asB))
    (sRet (eM (eC (.bool false)) Ow.d))
    sSkip)
    (sSeq (sFor (eB (eBin gIx (eVar 0) (eC (.int 3))) itD) (gtName 1)
    (sIf (tNotE (eB (eM (eB (aCons (eVar 1) aNil) f) viewD) asB))
    (sRet (eM (eC (.bool false)) Ow.d))
    sSkip))
    (sRet (eM (eC (.bool true)) Ow.d)))))))
theorem isStump_fin {fw f : List D → R Ow} (hw : ∀ i : Int, fw [.int i] = .ok (.d (.bool true))) (s : Stp) (ok : okS s) (hl : levS s ≤ 60) (h : ∀ nm k ps, s = .put nm k ps → ∀ p ∈ ps, f [encS p] = .ok (.d (.bool true))) : finR (bIsStump fw f (envOf 1 [encS s])) = .ok (.d (.bool true)) := by
  cases s with
  | op =>
    rw [encS_op]
    have he : envOf 1 [.tuple [.str "open"]] = [some (.d (.tuple [.str "open"])), none] := rfl
    have ti : gIsi "tuple" (.tuple [.str "open"]) = .ok (.bool true) := rfl
    have := open_eq
    rw [he]
    simp [sizeLine_eq, this, ti]
  | put nm k ps =>
    have he : envOf 1 [encS (.put nm k ps)] = [some (.d (encS (.put nm k ps))), none] := rfl
    rw [he]
    have ti : gIsi "tuple" (encS (.put nm k ps)) = .ok (.bool true) := by rw [encS_put]; rfl
    have t3 : gIsi "tuple" (.tuple (ps.map encS)) = .ok (.bool true) := rfl
    have l4 : gLen [encS (.put nm k ps)] = some (.d (.int 4)) := by rw [encS_put]; rfl
    have eo := put_ne_open ok hl
    have wh := hw k
    have pp := put_self
    obtain ⟨env', e1, x1, e2⟩ := forL_map (g := gtName 1) (f := (sIf (tNotE (eB (eM (eB (aCons (eVar 1) aNil) f) viewD) asB))
    (sRet (eM (eC (.bool false)) Ow.d))
    sSkip)) encS ps (fun i env => ∃ x1, env = [some (.d (encS (.put nm k ps))), x1]) (fun i p env hp ⟨x1, he⟩ => by
      subst he
      have := h nm k ps rfl p (List.mem_of_getElem? hp)
      refine ⟨_, rfl, [some (.d (encS (.put nm k ps))), some (.d (encS p))], .inl ?_, _, rfl⟩
      simp [this]) [some (.d (encS (.put nm k ps))), none] ⟨none, rfl⟩
    subst e2
    simp [ti, l4, eo, pp, p_ix0, p_ix1, p_ix2, p_ix3, wh, t3, e1, sizeLine_eq]
end
end Mir
set_option Elab.async false
set_option linter.all false
set_option maxRecDepth 100000
set_option maxHeartbeats 4000000
namespace Mir
open PySem PySem.Spec L2
noncomputable section
def pick (t : Trn) (wants : Rw → Bool) (g : Trm → Stp) (p : Str × List Trm) : List Stp := (((rowsOf t.wood p.1).zip p.2).filter fun q => wants q.1).map fun q => g q.2
end
end Mir
set_option Elab.async false
set_option linter.all false
set_option maxRecDepth 100000
set_option maxHeartbeats 4000000
namespace Mir
open PySem PySem.Spec L2
def moD (ms : List (Str × List Trm)) : D := .list (ms.map encMo)
noncomputable section
theorem nice_list {ds : List D} {n : Nat} (h : ∀ d ∈ ds, d.canLay0 = true ∧ d.depth ≤ n) (hn : n ≤ 129) : Nice (.list ds) := by
  refine ⟨?_, ?_⟩
  · rw [PyData.canLay0]
    exact canAll_of _ fun d hd => (h d hd).1
  · rw [PyData.depth]
    have := depthAll_of (n := n) ds fun d hd => (h d hd).2
    omega
theorem lcR_filt {α : Type} {g : D → Ev → Option Ev} {c : Ev → R Bool} {e : Ev → R Ow} {env : Ev} (enc : α → D) (P : α → Bool) (h : α → Ow) : ∀ xs : List α, (∀ a ∈ xs, ∃ env1, g (enc a) env = some env1 ∧ c env1 = .ok (P a) ∧ (P a = true → e env1 = .ok (h a))) → lcR g c e env (xs.map enc) = .ok ((xs.filter P).map h)
  | [], _ => rfl
  | d :: ds, q => by
    obtain ⟨env1, q1, q2, q3⟩ := q d List.mem_cons_self
    have ih := lcR_filt (g := g) (c := c) (e := e) (env := env) enc P h ds fun d hd => q d (List.mem_cons_of_mem _ hd)
    rw [List.map_cons]
    unfold lcR
    rw [q1]
    simp only [q2, noEx_ok, R.bind_ok]
    cases hp : P d with
    | true =>
      rw [List.filter_cons_of_pos hp]
      simp only [if_true, q3 hp, noEx_ok, R.bind_ok, ih]
      rfl
    | false =>
      rw [List.filter_cons_of_neg (by rw [hp]; exact Bool.false_ne_true)]
      simp only [Bool.false_eq_true, if_false, ih]
theorem mo_len (ms : List (Str × List Trm)) : gLen [moD ms] = some (.d (.int (ms.length : Nat))) := by
  have : gLen [moD ms] = some (Ow.d (.int (ms.map encMo).length)) := rfl
  rw [this, List.length_map]
theorem mo_ix {ms : List (Str × List Trm)} {k : Nat} {p : Str × List Trm} (h : ms[k]? = some p) : gIx (moD ms) (.int (k : Nat)) = some (encMo p) := by
  show atI (ms.map encMo) _ = _
  exact atI_natD (by rw [List.getElem?_map, h]; rfl)
theorem mo_ix0 (p : Str × List Trm) : gIx (encMo p) (.int 0) = some (.str p.1) := by unfold encMo; simp
def brD (bs : List Str) : D := .tuple (bs.map PyData.str)
end
end Mir
set_option Elab.async false
set_option linter.all false
set_option maxRecDepth 100000
set_option maxHeartbeats 4000000
namespace Mir
open PySem PySem.Spec L2
noncomputable section
def rwsD (rs : List Rw) : D := .list (rs.map encRw)
def trsD (ts : List Trm) : D := .list (ts.map encM)
theorem rws_len (rs : List Rw) : gLen [rwsD rs] = some (.d (.int (rs.length : Nat))) := by
  have : gLen [rwsD rs] = some (Ow.d (.int (rs.map encRw).length)) := rfl
  rw [this, List.length_map]
theorem rw_ix0 (r : Rw) : gIx (encRw r) (.int 0) = some (.str r.nm) := by unfold encRw; simp
theorem rw_ix1 (r : Rw) : gIx (encRw r) (.int 1) = some (brD r.br) := by
  unfold encRw brD
  generalize r.br.map PyData.str = B
  simp
def encRT (q : Rw × Trm) : D := .tuple [encRw q.1, encM q.2]
theorem zip_rt (rs : List Rw) (ts : List Trm) : zpArg [rwsD rs, trsD ts] = .ok ((rs.zip ts).map encRT) := by
  show (.ok (zipD _ _) : R (List D)) = _
  rw [zipD_zip]
  rfl
structure SndOk (w : Wood) (s : Trm) (ms : List (Str × List Trm)) : Prop where
  kinds : ∀ p ∈ w, PyData.strOk p.1 = true
  few : w.length ≤ 100
  dist : (w.map (·.1)).Nodup
  mkinds : ∀ p ∈ ms, PyData.strOk p.1 = true
theorem encMo_tup (p : Str × List Trm) : encMo p = .tuple [.str p.1, trsD p.2] := rfl
def numOf : List Rw → Str → Nat → Option Nat
  | [], _, _ => none
  | r :: rs, nm, k => if r.nm == nm then some k else numOf rs nm (k + 1)
/-- the rule of a name -/
def ruleOf (w : Wood) (p : Str × List Trm) (nm : Str) : D := match numOf (rowsOf w p.1) nm 0 with
  | none => .none
  | some i => match p.2[i]? with
    | some t => encM t
    | none => .none
end
end Mir
set_option Elab.async false
set_option linter.all false
set_option maxRecDepth 100000
set_option maxHeartbeats 4000000
namespace Mir
open PySem PySem.Spec L2
section
variable (S : Trm) (R : Nat → List Trm) (n : Nat)
/-- to the mode lead calls -/
inductive Reach : Int → Prop
  | start {c : Int × Int} : c ∈ callsM S → Reach c.1
  | step {m : Nat} {t : Trm} {c : Int × Int} : Reach (m : Int) → t ∈ R m → c ∈ callsM t → Reach c.1
/-- calls by modes that there are -/
structure Calls : Prop where
  start : ∀ c ∈ callsM S, 0 ≤ c.1 ∧ c.1 < n
  step : ∀ (m : Nat), m < n → ∀ t ∈ R m, ∀ c ∈ callsM t, 0 ≤ c.1 ∧ c.1 < n
/-- found so far; calls still to look at: those of the terms on the stack, and cs -/
structure RInv (l : List Int) (st : List Trm) (cs : List (Int × Int)) : Prop where
  nd : l.Nodup
  rch : ∀ i ∈ l, Reach S R i
  src : ∀ t ∈ st, ∀ c ∈ callsM t, Reach S R c.1
  csr : ∀ c ∈ cs, Reach S R c.1
  s0 : S ∈ st ∨ ∀ c ∈ callsM S, c.1 ∈ l ∨ c ∈ cs
  sm : ∀ m : Nat, (m : Int) ∈ l → ∀ t ∈ R m, t ∈ st ∨ ∀ c ∈ callsM t, c.1 ∈ l ∨ c ∈ cs
variable {S R n}
theorem RInv.pop {l : List Int} {st : List Trm} {t : Trm} (h : RInv S R l (st ++ [t]) []) : RInv S R l st (callsM t) := by
  have hc : ∀ u : Trm, (u ∈ st ++ [t] ∨ ∀ c ∈ callsM u, c.1 ∈ l ∨ c ∈ ([] : List (Int × Int))) → u ∈ st ∨ ∀ c ∈ callsM u, c.1 ∈ l ∨ c ∈ callsM t := fun u hu => by
    rcases hu with hu | hu
    · rcases List.mem_append.mp hu with hu | hu
      · exact .inl hu
      · rw [List.mem_singleton.mp hu]
        exact .inr fun c hc => .inr hc
    · refine .inr fun c hc => ?_
      rcases hu c hc with h | h
      · exact .inl h
      · cases h
  exact ⟨h.nd, h.rch, fun u hu => h.src u (List.mem_append_left _ hu), h.src t (List.mem_append_right _ (List.mem_singleton.mpr rfl)), hc S h.s0, fun m hm u hu => hc u (h.sm m hm u hu)⟩
theorem RInv.done {l : List Int} (h : RInv S R l [] []) (hn : Calls S R n) (i : Int) : i ∈ l ↔ Reach S R i := by
  refine ⟨h.rch i, fun r => ?_⟩
  induction r with
  | @start c hc =>
    rcases h.s0 with q | q
    · cases q
    · rcases q c hc with q | q
      · exact q
      · cases q
  | @step m t c hm ht hc ih =>
    rcases h.sm m ih t ht with q | q
    · cases q
    · rcases q c hc with q | q
      · exact q
      · cases q
end
noncomputable section
def rulesAt (ms : List (Str × List Trm)) (k : Nat) : List Trm := match ms[k]? with
  | some p => p.2
  | none => []
section
variable {t : Trn} {B : Nat} (hB : ∀ p ∈ t.modes, p.2.length ≤ B) (hc : Calls t.start (rulesAt t.modes) t.modes.length) (hm : t.modes.length + (B * t.modes.length + 1) ≤ 10000)
include hB hc hm
variable {f0 : List D → R Ow} (hf : ∀ u, (u = t.start ∨ ∃ p ∈ t.modes, u ∈ p.2) → f0 [encM u] = .ok (encCs (callsM u)) ∧ Nice (encM u) ∧ (encM u).depth ≤ 100)
include hf
end
end
end Mir
set_option Elab.async false
set_option linter.all false
set_option maxRecDepth 100000
set_option maxHeartbeats 4000000
namespace Mir
open PySem PySem.Spec L2
noncomputable section
theorem vw_ls (ds : List PyData) : viewD (.l (ds.map Ow.d)) = .list ds := by rw [viewD_l, viewAll_mapd]
theorem add_ls {α : Type} (enc : α → PyData) (xs ys : List α) (h : xs.length + ys.length ≤ 1000) : gAdd (.list (xs.map enc)) (.list (ys.map enc)) = some (.l (((xs ++ ys).map enc).map Ow.d)) := by
  rw [gAdd_lst (by rw [List.length_map, List.length_map, sizeLine_eq]; omega), show xs.map enc ++ ys.map enc = (xs ++ ys).map enc from by simp]
end
end Mir
set_option Elab.async false
set_option linter.all false
set_option maxRecDepth 100000
set_option maxHeartbeats 4000000
namespace Mir
open PySem PySem.Spec L2
def brOf : List Rw → Str → Option (List Str)
  | [], _ => none
  | r :: rs, nm => if r.nm == nm then some r.br else brOf rs nm
mutual
def isOf (w : Wood) : Tr → Str → Bool
  | .mk nm _ bs, k => match brOf (rowsOf w k) nm with
    | none => false
    | some ks => decide (ks.length = bs.length) && isOfs w bs ks
def isOfs (w : Wood) : List Tr → List Str → Bool
  | [], _ => true
  | _ :: _, [] => true
  | b :: bs, k :: ks => isOf w b k && isOfs w bs ks
end
theorem isOf_mk (w : Wood) (nm : Str) (mk : Int) (bs : List Tr) (k : Str) : isOf w (.mk nm mk bs) k = match brOf (rowsOf w k) nm with
    | none => false
    | some ks => decide (ks.length = bs.length) && isOfs w bs ks := by rw [isOf]
theorem isOfs_zip (w : Wood) : ∀ (bs : List Tr) (ks : List Str), isOfs w bs ks = (ks.zip bs).all fun p => isOf w p.2 p.1
  | [], ks => by rw [isOfs]; simp
  | b :: bs, [] => by rw [isOfs]; rfl
  | b :: bs, k :: ks => by rw [isOfs, isOfs_zip w bs ks]; rfl
theorem isOfs_at {w : Wood} : ∀ {bs : List Tr} {ks : List Str} {i : Nat} {b : Tr} {k : Str}, isOfs w bs ks = true → bs[i]? = some b → ks[i]? = some k → isOf w b k = true
  | [], ks, i, b, k, h, hb, hk => by simp at hb
  | c :: bs, [], i, b, k, h, hb, hk => by simp at hk
  | c :: bs, z :: ks, 0, b, k, h, hb, hk => by
    rw [isOfs, Bool.and_eq_true] at h
    simp at hb hk
    subst hb hk
    exact h.1
  | c :: bs, z :: ks, i + 1, b, k, h, hb, hk => by
    rw [isOfs, Bool.and_eq_true] at h
    simp at hb hk
    exact isOfs_at h.2 hb hk
noncomputable section
theorem tup_len (l : List D) : gLen [.tuple l] = some (.d (.int (l.length : Nat))) := rfl
def mkOf (kp : Bool) (ad mk : Int) : Int := if kp then ad + mk else ad
end
end Mir
set_option Elab.async false
set_option linter.all false
set_option maxRecDepth 100000
set_option maxHeartbeats 4000000
namespace Mir
open PySem PySem.Spec L2
def onStep (i : Int) (l : List Int) (c : Int × Int) : List Int := if c.2 = i ∧ c.1 ∉ l then l ++ [c.1] else l
def onAll (i : Int) (cs : List (Int × Int)) (l : List Int) : List Int := cs.foldl (onStep i) l
def risen (l : List Int) : List Int := l.mergeSort fun a b => decide (a ≤ b)
noncomputable section
/-- the modes in which terms call a branch, rising -/
def modesOn (i : Int) (Ts : List Trm) : List Int := risen (onAll i (callsMs Ts) [])
end
def trNm : Tr → Str
  | .mk n _ _ => n
def trBs : Tr → List Tr
  | .mk _ _ bs => bs
def noTm : Trm := .call 0 0
def noTr : Tr := .mk "" 0 []
/-- the rule of a mode for a name -/
def ruleT (t : Trn) (m : Int) (nm : Str) : Option Trm := match t.modes[m.toNat]? with
  | none => none
  | some p => match numOf (rowsOf t.wood p.1) nm 0 with
    | none => none
    | some i => p.2[i]?
def ruleF (t : Trn) (m : Int) (nm : Str) : Trm := (ruleT t m nm).getD noTm
mutual
def madB (mk : Int) (fs : List (Int → Tr)) : Trm → Tr
  | .call m b => (fs.getD b.toNat fun _ => noTr) m
  | .put nm kp ad ps => .mk nm (mkOf kp ad mk) (madBs mk fs ps)
def madBs (mk : Int) (fs : List (Int → Tr)) : List Trm → List Tr
  | [] => []
  | p :: ps => madB mk fs p :: madBs mk fs ps
end
theorem madBs_map (mk : Int) (fs : List (Int → Tr)) : ∀ ps, madBs mk fs ps = ps.map (madB mk fs)
  | [] => by rw [madBs]; rfl
  | p :: ps => by rw [madBs, madBs_map mk fs ps]; rfl
mutual
def madT (t : Trn) : Tr → Trm → Tr
  | .mk _ mk bs => madB mk (madTs t bs)
def madTs (t : Trn) : List Tr → List (Int → Tr)
  | [] => []
  | b :: bs => (fun m => madT t b (ruleF t m (trNm b))) :: madTs t bs
end
theorem madTs_map (t : Trn) : ∀ bs, madTs t bs = bs.map fun b m => madT t b (ruleF t m (trNm b))
  | [] => by rw [madTs]; rfl
  | b :: bs => by rw [madTs, madTs_map t bs]; rfl
theorem madT_call {t : Trn} {nm : Str} {mk : Int} {bs : List Tr} {b : Tr} {m : Int} {i : Nat} (h : bs[i]? = some b) : madT t (.mk nm mk bs) (.call m (i : Nat)) = madT t b (ruleF t m (trNm b)) := by
  rw [madT, madB, madTs_map, List.getD_eq_getElem?_getD, Int.toNat_natCast, List.getElem?_map, h]
  rfl
theorem madT_put (t : Trn) (nm : Str) (mk : Int) (bs : List Tr) (n : Str) (kp : Bool) (ad : Int) (ps : List Trm) : madT t (.mk nm mk bs) (.put n kp ad ps) = .mk n (mkOf kp ad mk) (ps.map (madT t (.mk nm mk bs))) := by
  rw [madT, madB, madBs_map]
/-- size and levels -/
def mesD (o : Tr) : D := .tuple [.int (sizeT o : Nat), .int (levT o : Nat)]
noncomputable section
end
end Mir
set_option Elab.async false
set_option linter.all false
set_option maxRecDepth 100000
set_option maxHeartbeats 4000000
namespace Mir
open PySem PySem.Spec L2
/-- the calls of a term fit branches of these kinds -/
def FitT (t : Trn) (ks : List Str) (T : Trm) : Prop := ∀ c ∈ callsM T, 0 ≤ c.1 ∧ 0 ≤ c.2 ∧ ∃ p, t.modes[c.1.toNat]? = some p ∧ ks[c.2.toNat]? = some p.1
structure GoodM (B : Nat) (T : Trm) : Prop where
  ok : okM T
  lev : levM T ≤ B
  few : sizeM T ≤ 1000
structure SndT (t : Trn) (B : Nat) : Prop where
  few : t.modes.length ≤ 1000
  wide : ∀ k nm ks, brOf (rowsOf t.wood k) nm = some ks → ks.length ≤ 1000
  lens : ∀ p ∈ t.modes, p.2.length = (rowsOf t.wood p.1).length
  fits : ∀ p ∈ t.modes, ∀ (i : Nat) (row : Rw) (T : Trm), (rowsOf t.wood p.1)[i]? = some row → p.2[i]? = some T → FitT t row.br T ∧ GoodM B T
theorem sizeMs_memM : ∀ {ps : List Trm} {p : Trm}, p ∈ ps → sizeM p ≤ sizeMs ps
  | q :: ps, p, h => by
    rw [sizeMs]
    rcases List.mem_cons.mp h with rfl | h
    · omega
    · have := sizeMs_memM h
      omega
theorem brOf_num {nm : Str} : ∀ {rs : List Rw} {ks : List Str} (k : Nat), brOf rs nm = some ks → ∃ i row, numOf rs nm k = some (k + i) ∧ rs[i]? = some row ∧ row.br = ks
  | [], ks, k, h => by cases h
  | r :: rs, ks, k, h => by
    rw [brOf] at h
    rw [numOf]
    split at h
    · rename_i c
      rw [if_pos c]
      cases h
      exact ⟨0, r, rfl, rfl, rfl⟩
    · rename_i c
      rw [if_neg c]
      obtain ⟨i, row, a1, a2, a3⟩ := brOf_num (k + 1) h
      exact ⟨i + 1, row, by rw [a1]; congr 1; omega, by rw [List.getElem?_cons_succ]; exact a2, a3⟩
theorem rule_ex {t : Trn} {B : Nat} (ok : SndT t B) {m : Nat} {p : Str × List Trm} {b : Tr} (hm : t.modes[m]? = some p) (hb : isOf t.wood b p.1 = true) : ∃ ks, ruleOf t.wood p (trNm b) = encM (ruleF t (m : Int) (trNm b)) ∧ ks.length = (trBs b).length ∧ isOfs t.wood (trBs b) ks = true ∧ FitT t ks (ruleF t (m : Int) (trNm b)) ∧ GoodM B (ruleF t (m : Int) (trNm b)) ∧ brOf (rowsOf t.wood p.1) (trNm b) = some ks := by
  obtain ⟨nm, mk, bs⟩ := b
  rw [isOf_mk] at hb
  show ∃ ks, ruleOf t.wood p nm = encM (ruleF t (m : Int) nm) ∧ ks.length = bs.length ∧ isOfs t.wood bs ks = true ∧ FitT t ks (ruleF t (m : Int) nm) ∧ GoodM B (ruleF t (m : Int) nm) ∧ brOf (rowsOf t.wood p.1) nm = some ks
  cases hr : brOf (rowsOf t.wood p.1) nm with
  | none => rw [hr] at hb; cases hb
  | some ks =>
    rw [hr] at hb
    rw [Bool.and_eq_true, decide_eq_true_eq] at hb
    obtain ⟨i, row, a1, a2, a3⟩ := brOf_num 0 hr
    have pm := List.mem_of_getElem? hm
    have ln := ok.lens p pm
    have il : i < p.2.length := by rw [ln]; exact (List.getElem?_eq_some_iff.mp a2).1
    have ti := List.getElem?_eq_getElem il
    have a1' : numOf (rowsOf t.wood p.1) nm 0 = some i := by rw [a1]; congr 1; omega
    have f1 : ruleF t (m : Int) nm = p.2[i] := by
      unfold ruleF ruleT
      rw [Int.toNat_natCast, hm]
      show ((match numOf (rowsOf t.wood p.1) nm 0 with
        | none => none
        | some i => p.2[i]?).getD noTm) = _
      rw [a1']
      show (p.2[i]?).getD noTm = _
      rw [ti]
      rfl
    have f2 : ruleOf t.wood p nm = encM p.2[i] := by
      unfold ruleOf
      rw [a1']
      show (match p.2[i]? with
        | some t => encM t
        | none => .none) = _
      rw [ti]
    obtain ⟨g1, g2⟩ := ok.fits p pm i row _ a2 ti
    rw [f1]
    subst a3
    exact ⟨row.br, f2, hb.1, hb.2, g1, g2, rfl⟩
/-- what below_of tells -/
def prsB (t : Trn) (Ts : List Trm) (i : Nat) (b : Tr) : List (D × D) := (modesOn (i : Int) Ts).map fun m => (PyData.int m, mesD (madT t b (ruleF t m (trNm b))))
def belL (t : Trn) (Ts : List Trm) : Nat → List Tr → List D
  | _, [] => []
  | i, b :: bs => .dict (prsB t Ts i b) :: belL t Ts (i + 1) bs
noncomputable section
end
end Mir
set_option Elab.async false
set_option linter.all false
set_option maxRecDepth 100000
set_option maxHeartbeats 4000000
namespace Mir
open PySem PySem.Spec L2
noncomputable section
@[simp] theorem R.map_exc {α β : Type} (f : α → β) (c : Str) : R.map f (.ex c) = .ex c := rfl
@[simp] theorem R.bind_exc {α β : Type} (f : α → R β) (c : Str) : R.bind (.ex c) f = .ex c := rfl
@[simp] theorem R.st_exc {α : Type} (env : Ev) (f : α → SR) (c : Str) : (R.ex c : R α).st env f = .ex c env := rfl
@[simp] theorem andThen_exc (c : Str) (env : Ev) (g : Ev → SR) : (SR.ex c env).andThen g = .ex c env := rfl
@[simp] theorem finR_exc (c : Str) (env : Ev) : finR (.ex c env) = .ex c := rfl
/-- what the walk of a branch needs -/
structure BrOk (t : Trn) (Ts : List Trm) (f5 f9 f10 f11 : List D → R Ow) (j : Nat) (b : Tr) : Prop where
  few : (modesOn (j : Int) Ts).length ≤ 1000
  h9 : f9 [trsD Ts, .int (j : Nat)] = .ok (.l ((modesOn (j : Int) Ts).map fun m => .d (.int m)))
  h5 : ∀ m ∈ modesOn (j : Int) Ts, f5 [encTn t, .int m, .str (trNm b)] = .ok (.d (encM (ruleF t m (trNm b))))
  h11 : f11 [encTn t, trsD ((modesOn (j : Int) Ts).map fun m => ruleF t m (trNm b)), encT b] = .ok (.l ((belL t ((modesOn (j : Int) Ts).map fun m => ruleF t m (trNm b)) 0 (trBs b)).map Ow.d))
  h10 : ∀ m ∈ modesOn (j : Int) Ts, f10 [encM (ruleF t m (trNm b)), .list (belL t ((modesOn (j : Int) Ts).map fun m => ruleF t m (trNm b)) 0 (trBs b))] = .ok (.d (mesD (madT t b (ruleF t m (trNm b)))))
end
end Mir
set_option Elab.async false
set_option linter.all false
set_option maxRecDepth 100000
set_option maxHeartbeats 4000000
namespace Mir
open PySem PySem.Spec L2
theorem nameL_inj {code i j : Int} (c0 : 0 ≤ code) (i0 : 0 ≤ i) (i1 : i < 26) (j0 : 0 ≤ j) (j1 : j < 26) (h : nameL code i = nameL code j) : i = j := by
  unfold nameL at h
  split at h
  · have hl := congrArg List.length h
    rw [List.length_replicate, List.length_replicate] at hl
    have hh := congrArg (fun l : List Nat => l[0]?) h
    simp only [List.getElem?_replicate] at hh
    rw [if_pos (by omega), if_pos (by omega)] at hh
    have := Option.some.inj hh
    omega
  · have hb : 0 ≤ code / 8 % (1 + code % 8) := Int.emod_nonneg _ (by omega)
    have hb2 : code / 8 % (1 + code % 8) < 1 + code % 8 := Int.emod_lt_of_pos _ (by omega)
    obtain ⟨s, hs⟩ : ∃ s : Nat, (s : Int) = code / 8 % (1 + code % 8) := ⟨(code / 8 % (1 + code % 8)).toNat, by omega⟩
    have hh := congrArg (fun l : List Nat => l[s]?) h
    simp only [List.getElem?_map] at hh
    rw [List.getElem?_range (by omega)] at hh
    simp only [Option.map_some, hs, if_true] at hh
    have := Option.some.inj hh
    generalize code / 1664 % 3 * (code / 8 % (1 + code % 8)) = z at this
    generalize code / 64 % 26 = y at this
    omega
/-- names below sixteen, told apart -/
def KnInj (kn : Nat → Str) : Prop := ∀ i j, i < 16 → j < 16 → kn i = kn j → i = j
theorem kn_inj {fn : List D → R Ow} {code : Int} {kn : Nat → Str} (c0 : 0 ≤ code) (h1 : ∀ k : Nat, k < 900 → fn [.int code, .int (k : Nat)] = .ok (.d (.str (tx (nameL code k))))) (h2 : ∀ k, k < 900 → fn [.int code, .int (k : Nat)] = .ok (.d (.str (kn k)))) : KnInj kn := fun i j hi hj e => by
  have a := h1 i (by omega)
  have b := h1 j (by omega)
  rw [h2 i (by omega)] at a
  rw [h2 j (by omega)] at b
  have ea : kn i = tx (nameL code i) := by
    have := R.ok.inj a
    have := Ow.d.inj this
    exact PyData.str.inj this
  have eb : kn j = tx (nameL code j) := by
    have := R.ok.inj b
    have := Ow.d.inj this
    exact PyData.str.inj this
  rw [ea, eb] at e
  have := nameL_inj c0 (by omega) (by omega) (by omega) (by omega) (tx_inj e)
  omega
theorem WdOk.kinds {w : Wood} {kn : Nat → Str} (h : WdOk w kn) (hk : KnInj kn) : (w.map (·.1)).Nodup := by
  unfold List.Nodup
  rw [List.pairwise_iff_getElem]
  intro i j hi hj hij e
  rw [List.length_map] at hi hj
  have hf := h.few
  rw [List.getElem_map, List.getElem_map] at e
  have a := h.at_ i _ (List.getElem?_eq_getElem hi)
  have b := h.at_ j _ (List.getElem?_eq_getElem hj)
  have e2 : w[i].1 = w[j].1 := e
  rw [a, b] at e2
  have := hk i j (by omega) (by omega) e2
  omega
theorem RwNm.nodup {kn : Nat → Str} {rs : List Rw} (h : RwNm kn rs) (hl : rs.length ≤ 3) (hk : KnInj kn) : (rs.map (·.nm)).Nodup := by
  obtain ⟨b, hb, hp⟩ := h
  rw [hp.nodup_iff]
  unfold List.Nodup
  rw [List.pairwise_iff_getElem]
  intro i j hi hj hij e
  rw [List.length_map, List.length_range] at hi hj
  rw [List.getElem_map, List.getElem_map, List.getElem_range, List.getElem_range] at e
  have := hk _ _ (by omega) (by omega) e
  omega
theorem rowsK_or (w : Wood) (k : Str) : rowsOf w k = [] ∨ ∃ p ∈ w, p.1 = k ∧ rowsOf w k = p.2 := by
  induction w with
  | nil => exact .inl rfl
  | cons p w ih =>
    rw [rowsOf]
    cases c : p.1 == k with
    | true => exact .inr ⟨p, List.mem_cons_self, by simpa using c, rfl⟩
    | false =>
      rcases ih with h | ⟨q, h1, h2, h3⟩
      · exact .inl h
      · exact .inr ⟨q, List.mem_cons_of_mem _ h1, h2, h3⟩
theorem brOf_in {nm : Str} : ∀ {rs : List Rw} {ks : List Str}, brOf rs nm = some ks → ∃ r ∈ rs, r.nm = nm ∧ r.br = ks
  | [], ks, h => by cases h
  | r :: rs, ks, h => by
    rw [brOf] at h
    split at h
    · rename_i c
      exact ⟨r, List.mem_cons_self, by simpa using c, Option.some.inj h⟩
    · obtain ⟨q, h1, h2⟩ := brOf_in h
      exact ⟨q, List.mem_cons_of_mem _ h1, h2⟩
theorem brOf_of {rs : List Rw} (hd : (rs.map (·.nm)).Nodup) {r : Rw} (hr : r ∈ rs) : brOf rs r.nm = some r.br := by
  induction rs with
  | nil => cases hr
  | cons q rs ih =>
    rw [List.map_cons, List.nodup_cons] at hd
    rw [brOf]
    rcases List.mem_cons.mp hr with e | e
    · rw [e, beq_self_eq_true, if_pos rfl]
    · rw [if_neg, ih hd.2 e]
      intro c
      have c : q.nm = r.nm := by simpa using c
      exact hd.1 (List.mem_map.mpr ⟨r, e, c.symm⟩)
/-- what the later laws need of a drawn turning -/
structure TnGd (t : Trn) : Prop where
  snd : SndT t 3
  ok : TnOk t
  kinds : (t.wood.map (·.1)).Nodup
  rows : ∀ p ∈ t.wood, (p.2.map (·.nm)).Nodup ∧ (∃ r ∈ p.2, r.br = []) ∧ ∀ r ∈ p.2, PyData.strOk r.nm = true ∧ r.br.length ≤ 4 ∧ ∀ z ∈ r.br, ∃ q ∈ t.wood, q.1 = z
  mkind : ∀ p ∈ t.modes, ∃ q ∈ t.wood, q.1 = p.1
  some : 1 ≤ t.wood.length
  stop : ∃ N, N ≤ 36 ∧ tab (mds t) (N + 1) = tab (mds t) N ∧ ∀ i, i < N → tab (mds t) (i + 1) ≠ tab (mds t) i
theorem TnMade.gd {t : Trn} {kn : Nat → Str} (m : TnMade t) (hw : WdOk t.wood kn) (hk : KnInj kn) : TnGd t := by
  have ok := m.ok hw
  refine ⟨⟨by have := m.few; omega, fun k nm ks h => ?_, fun p hp => (m.rules p hp).1, fun p hp i row T hr hT => ?_⟩, ok, hw.kinds hk, fun p hp => ?_, m.kind, hw.one, ?_⟩
  · obtain ⟨r, hr, _, e⟩ := brOf_in h
    rcases rowsK_or t.wood k with z | ⟨p, hp, _, e2⟩
    · rw [z] at hr; cases hr
    · rw [e2] at hr
      have := ((hw.rows p hp).2.2 r hr).2.1
      rw [← e]
      omega
  · obtain ⟨a, b, c, d⟩ := (m.rules p hp).2 i row T hr hT
    refine ⟨fun z hz => ?_, a, b, by omega⟩
    obtain ⟨x, y, e, q, h1, h2⟩ := d z hz
    subst e
    rw [List.getElem?_map] at h1
    cases hx : t.modes[x]? with
    | none => rw [hx] at h1; cases h1
    | some p' =>
      rw [hx] at h1
      have e : p'.1 = q := Option.some.inj h1
      exact ⟨by show (0 : Int) ≤ (x : Nat); omega, by show (0 : Int) ≤ (y : Nat); omega, p', by rw [Int.toNat_natCast]; exact hx, by rw [Int.toNat_natCast, e]; exact h2⟩
  · obtain ⟨a, b, c⟩ := hw.rows p hp
    refine ⟨(hw.rnm p hp).nodup a hk, b, fun r hr => ?_⟩
    obtain ⟨c1, c2, c3⟩ := c r hr
    refine ⟨c1, c2, fun z hz => ?_⟩
    obtain ⟨j, hj, e⟩ := c3 z hz
    exact ⟨t.wood[j], List.getElem_mem hj, by rw [e]; exact hw.at_ j _ (List.getElem?_eq_getElem hj)⟩
  · obtain ⟨N, h1, h2, h3⟩ := tab_stop (mds t) (mds_ok ok)
    refine ⟨N, ?_, h2, h3⟩
    have each : ∀ s ∈ tab (mds t) 0, cS s ≤ 9 := fun s hs => by
      obtain ⟨md, hm, rfl⟩ := List.mem_map.mp (show s ∈ (mds t).map fun m => metOf ((bares m).map (stIn [])) from hs)
      obtain ⟨p, hp, rfl⟩ := List.mem_map.mp hm
      obtain ⟨h1, _⟩ := ok.bare p hp
      obtain ⟨r, rest, e⟩ : ∃ r rest, bares (mdOf t.wood p) = r :: rest := by
        cases e : bares (mdOf t.wood p) with
        | nil => exact absurd e h1
        | cons r rest => exact ⟨r, rest, rfl⟩
      have le : leS (metOf ((bares (mdOf t.wood p)).map (stIn []))) (stIn [] r) := metOf_le (by rw [e]; simp)
      have hr : r ∈ p.2 := bares_in r (by rw [e]; simp)
      obtain ⟨i, hi, ei⟩ := List.mem_iff_getElem.mp hr
      obtain ⟨q1, q2⟩ := m.rules p hp
      have := (q2 i _ r (List.getElem?_eq_getElem (by omega)) (by rw [List.getElem?_eq_getElem hi, ei])).2.2.1
      have a := (leS_c le).1
      have b := stIn_c r
      omega
    have := cSs_le (n := 9) (ss := tab (mds t) 0) each
    rw [tab_len] at this
    have l : (mds t).length = t.modes.length := List.length_map _
    rw [l] at this
    have := m.few
    have : 9 * t.modes.length ≤ 9 * 4 := Nat.mul_le_mul_left _ this
    omega
end Mir
set_option Elab.async false
set_option linter.all false
set_option maxRecDepth 100000
set_option maxHeartbeats 4000000
namespace Mir
open PySem PySem.Spec L2
theorem numOf_nd {rs : List Rw} : (rs.map (·.nm)).Nodup → ∀ {i : Nat} {r : Rw} (k : Nat), rs[i]? = some r → numOf rs r.nm k = some (k + i) := by
  induction rs with
  | nil => intro _ i r k h; simp at h
  | cons q rs ih =>
    intro hd i r k h
    rw [List.map_cons, List.nodup_cons] at hd
    rw [numOf]
    cases i with
    | zero =>
      rw [List.getElem?_cons_zero] at h
      cases h
      rw [beq_self_eq_true, if_pos rfl]
      rfl
    | succ i =>
      rw [List.getElem?_cons_succ] at h
      rw [if_neg, ih hd.2 (k + 1) h]
      · congr 1
        omega
      · intro c
        have c : q.nm = r.nm := by simpa using c
        exact hd.1 (List.mem_map.mpr ⟨r, List.mem_of_getElem? h, c.symm⟩)
section
variable {t : Trn} (gd : TnGd t)
include gd
theorem rows_nd (k : Str) : ((rowsOf t.wood k).map (·.nm)).Nodup := by
  rcases rowsK_or t.wood k with z | ⟨p, hp, _, e⟩
  · rw [z]; exact List.nodup_nil
  · rw [e]; exact (gd.rows p hp).1
theorem rule_row {m : Nat} {p : Str × List Trm} (hm : t.modes[m]? = some p) {i : Nat} {row : Rw} {T : Trm} (hr : (rowsOf t.wood p.1)[i]? = some row) (hT : p.2[i]? = some T) : ruleF t (m : Int) row.nm = T := by
  unfold ruleF ruleT
  rw [Int.toNat_natCast, hm]
  show ((match numOf (rowsOf t.wood p.1) row.nm 0 with
    | none => none
    | some i => p.2[i]?).getD noTm) = _
  rw [numOf_nd (rows_nd gd p.1) 0 hr, Nat.zero_add]
  show (p.2[i]?).getD noTm = _
  rw [hT]
  rfl
theorem rule_at {m : Nat} {p : Str × List Trm} (hm : t.modes[m]? = some p) {u : Tr} (hu : isOf t.wood u p.1 = true) : ∃ (i : Nat) (row : Rw) (T : Trm), (rowsOf t.wood p.1)[i]? = some row ∧ p.2[i]? = some T ∧ row.nm = trNm u ∧ ruleF t (m : Int) (trNm u) = T ∧ row.br.length = (trBs u).length ∧ isOfs t.wood (trBs u) row.br = true ∧ FitT t row.br T ∧ GoodM 3 T := by
  obtain ⟨ks, _, a2, a3, a4, a5, a6⟩ := rule_ex gd.snd hm hu
  obtain ⟨r, hr, hn, hb⟩ := brOf_in a6
  obtain ⟨i, hi, e⟩ := List.mem_iff_getElem.mp hr
  have pm := List.mem_of_getElem? hm
  have ln := gd.snd.lens p pm
  have hr' : (rowsOf t.wood p.1)[i]? = some r := by rw [List.getElem?_eq_getElem hi, e]
  have hT := List.getElem?_eq_getElem (show i < p.2.length by omega)
  have ru := rule_row gd hm hr' hT
  rw [hn] at ru
  subst hb
  exact ⟨i, r, _, hr', hT, hn, ru, a2, a3, by rw [← ru]; exact a4, by rw [← ru]; exact a5⟩
theorem isOf_row {k : Str} {row : Rw} (hr : row ∈ rowsOf t.wood k) (mk : Int) (bs : List Tr) (hl : row.br.length = bs.length) (hb : isOfs t.wood bs row.br = true) : isOf t.wood (.mk row.nm mk bs) k = true := by
  rw [isOf_mk, brOf_of (rows_nd gd k) hr]
  show (decide (row.br.length = bs.length) && isOfs t.wood bs row.br) = true
  rw [decide_eq_true hl, hb]
  rfl
end
/-- the kind's leaf -/
def leafT (w : Wood) (k : Str) : Tr := .mk ((((rowsOf w k).filter fun r => r.br.isEmpty).map (·.nm)).getD 0 "") 0 []
section
variable {t : Trn} (gd : TnGd t)
include gd
theorem leaf_row {k : Str} (hk : ∃ q ∈ t.wood, q.1 = k) : ∃ (i : Nat) (row : Rw), (rowsOf t.wood k)[i]? = some row ∧ row.br = [] ∧ leafT t.wood k = .mk row.nm 0 [] := by
  obtain ⟨q, hq, hqr⟩ := rowsOf_mem hk
  obtain ⟨r0, hr0, hb0⟩ := (gd.rows q hq).2.1
  rw [hqr] at hr0
  have ne : 0 < ((rowsOf t.wood k).filter fun r => r.br.isEmpty).length := List.length_pos_of_mem (List.mem_filter.mpr ⟨hr0, by rw [hb0]; rfl⟩)
  have h0 := List.getElem?_eq_getElem ne
  have hm := List.getElem_mem ne
  rw [List.mem_filter] at hm
  obtain ⟨i, hi, e⟩ := List.mem_iff_getElem.mp hm.1
  refine ⟨i, _, by rw [List.getElem?_eq_getElem hi, e], List.isEmpty_iff.mp hm.2, ?_⟩
  unfold leafT
  rw [List.getD_eq_getElem?_getD, List.getElem?_map, h0]
  rfl
end
/-- what a mode makes of a tree -/
def outT (t : Trn) (m : Nat) (u : Tr) : Tr := madT t u (ruleF t (m : Int) (trNm u))
def trAt : Tr → List Nat → Option Tr
  | u, [] => some u
  | .mk _ _ bs, j :: q => match bs[j]? with
    | some b => trAt b q
    | none => none
abbrev Lab := Str × Int × Nat
def labT : Tr → Lab
  | .mk nm k bs => (nm, k, bs.length)
theorem beg_leS {a b : Stp} {x : Tr} (h : leS a b) (hb : beg b x = true) : beg a x = true := by
  have := beg_met b a x hb
  rw [met_comm, show met a b = a from h] at this
  exact this
theorem beg_stIn (t : Trn) (u : Tr) (ss : List Stp) : ∀ T : Trm, (∀ c ∈ callsM T, beg (ss.getD c.1.toNat .op) (madT t u (.call c.1 c.2)) = true) → beg (stIn ss T) (madT t u T) = true
  | .call m b, h => by
    rw [stIn]
    exact h (m, b) (by rw [callsM]; exact List.mem_singleton.mpr rfl)
  | .put nm kp ad ps, h => by
    obtain ⟨n2, mk, bs⟩ := u
    rw [stIn, madT_put]
    cases kp with
    | true => rw [cond_true, beg]
    | false =>
      rw [cond_false, beg, stIns_map]
      have hh : ∀ p ∈ ps, beg (stIn ss p) (madT t (.mk n2 mk bs) p) = true := fun p hp => beg_stIn t (.mk n2 mk bs) ss p fun c hc => h c (by
        rw [callsM, callsMs_flat, List.mem_flatten]
        exact ⟨_, List.mem_map.mpr ⟨p, hp, rfl⟩, hc⟩)
      have hz : ∀ l : List Trm, (∀ p ∈ l, beg (stIn ss p) (madT t (.mk n2 mk bs) p) = true) → begs (l.map (stIn ss)) (l.map (madT t (.mk n2 mk bs))) = true := by
        intro l
        induction l with
        | nil => intro _; simp [begs]
        | cons p l ih =>
          intro hl
          rw [List.map_cons, List.map_cons, begs, hl p List.mem_cons_self, ih fun p hp => hl p (List.mem_cons_of_mem _ hp)]
          rfl
      rw [hz ps hh]
      simp [mkOf]
termination_by T => sizeM T
decreasing_by
  rw [sizeM]
  have := sizeMs_memM hp
  omega
end Mir
set_option Elab.async false
set_option linter.all false
set_option maxRecDepth 100000
set_option maxHeartbeats 4000000
namespace Mir
open PySem PySem.Spec L2
theorem tab_at0 {t : Trn} {m : Nat} {p : Str × List Trm} (hm : t.modes[m]? = some p) : (tab (mds t) 0).getD m .op = metOf ((bares (mdOf t.wood p)).map (stIn [])) := by
  show ((mds t).map fun m => metOf ((bares m).map (stIn []))).getD m .op = _
  rw [List.getD_eq_getElem?_getD, List.getElem?_map]
  unfold mds
  rw [List.getElem?_map, hm]
  rfl
theorem tab_atS {t : Trn} (ok : TnOk t) {m : Nat} {p : Str × List Trm} (hm : t.modes[m]? = some p) (n : Nat) : (tab (mds t) (n + 1)).getD m .op = metOf (p.2.map (stIn (tab (mds t) n))) := by
  show ((mds t).map fun m => metOf ((rulesM m).map (stIn (tab (mds t) n)))).getD m .op = _
  rw [List.getD_eq_getElem?_getD, List.getElem?_map]
  unfold mds
  rw [List.getElem?_map, hm]
  show metOf ((rulesM (mdOf t.wood p)).map _) = _
  rw [rules_mdOf (ok.rows p (List.mem_of_getElem? hm)).1]
/-- rows that count within so many levels -/
def rowsIn (t : Trn) (p : Str × List Trm) (n : Nat) : List (Rw × Trm) := if n = 0 then ((rowsOf t.wood p.1).zip p.2).filter (fun q => q.1.br.isEmpty) else (rowsOf t.wood p.1).zip p.2
def ssIn (t : Trn) : Nat → List Stp
  | 0 => []
  | n + 1 => tab (mds t) n
theorem tab_rows {t : Trn} (ok : TnOk t) {m : Nat} {p : Str × List Trm} (hm : t.modes[m]? = some p) (n : Nat) : (tab (mds t) n).getD m .op = metOf ((rowsIn t p n).map fun q => stIn (ssIn t n) q.2) := by
  have ln := (ok.rows p (List.mem_of_getElem? hm)).1
  cases n with
  | zero =>
    rw [tab_at0 hm, bares_zip, List.map_map]
    rfl
  | succ n =>
    rw [tab_atS ok hm n]
    show _ = metOf (((rowsOf t.wood p.1).zip p.2).map fun q => stIn (tab (mds t) n) q.2)
    have : ((rowsOf t.wood p.1).zip p.2).map (fun q => stIn (tab (mds t) n) q.2) = (((rowsOf t.wood p.1).zip p.2).map (·.2)).map (stIn (tab (mds t) n)) := by rw [List.map_map]; rfl
    rw [this, List.map_snd_zip (by omega)]
theorem zip_at {α β : Type} {as : List α} {bs : List β} {q : α × β} (h : q ∈ as.zip bs) : ∃ i : Nat, as[i]? = some q.1 ∧ bs[i]? = some q.2 := by
  obtain ⟨i, hi, e⟩ := List.mem_iff_getElem.mp h
  rw [List.getElem_zip] at e
  rw [List.length_zip] at hi
  refine ⟨i, ?_, ?_⟩
  · rw [List.getElem?_eq_getElem (by omega), ← e]
  · rw [List.getElem?_eq_getElem (by omega), ← e]
theorem mem_zip {α β : Type} {as : List α} {bs : List β} {i : Nat} {a : α} {b : β} (h1 : as[i]? = some a) (h2 : bs[i]? = some b) : (a, b) ∈ as.zip bs := by
  obtain ⟨i1, e1⟩ := List.getElem?_eq_some_iff.mp h1
  obtain ⟨i2, e2⟩ := List.getElem?_eq_some_iff.mp h2
  refine List.mem_iff_getElem.mpr ⟨i, by rw [List.length_zip]; omega, ?_⟩
  rw [List.getElem_zip, e1, e2]
section
variable {t : Trn} (gd : TnGd t)
include gd
theorem call_kid {row : Rw} {T : Trm} (hf : FitT t row.br T) {c : Int × Int} (hc : c ∈ callsM T) : ∃ (a b : Nat) (p : Str × List Trm), c = ((a : Int), (b : Int)) ∧ t.modes[a]? = some p ∧ row.br[b]? = some p.1 := by
  obtain ⟨c1, c2, p, c3, c4⟩ := hf c hc
  obtain ⟨x, y⟩ := c
  exact ⟨x.toNat, y.toNat, p, by simp only at c1 c2; ext <;> simp <;> omega, c3, c4⟩
/-- what a mode makes of a tree begins with its common stump within so many levels -/
theorem out_beg : ∀ (n : Nat) (m : Nat) (p : Str × List Trm) (u : Tr), t.modes[m]? = some p → isOf t.wood u p.1 = true → levT u ≤ n + 1 → beg ((tab (mds t) n).getD m .op) (outT t m u) = true
  | n, m, p, u, hm, hu, hl => by
    obtain ⟨i, row, T, h1, h2, h3, h4, h5, h6, h7, h8⟩ := rule_at gd hm hu
    unfold outT
    rw [h4, tab_rows gd.ok hm n]
    have bl : ∀ (b : Nat) (z : Tr), (trBs u)[b]? = some z → levT z + 1 ≤ levT u := fun b z hz => by
      obtain ⟨nm, mk, bs⟩ := u
      have := levTs_le (Nat.le_refl _) z (List.mem_of_getElem? hz)
      rw [levT]
      change levT z ≤ levTs bs at this
      omega
    have inr : (row, T) ∈ rowsIn t p n := by
      unfold rowsIn
      split
      · rename_i c
        subst c
        rw [List.mem_filter]
        refine ⟨mem_zip h1 h2, ?_⟩
        cases hb : row.br with
        | nil => simp [hb]
        | cons z zs =>
          rw [hb] at h5
          obtain ⟨x, hx⟩ : ∃ x, (trBs u)[0]? = some x := ⟨_, List.getElem?_eq_getElem (by rw [← h5]; simp)⟩
          have := bl 0 x hx
          have : 1 ≤ levT x := by cases x; rw [levT]; omega
          omega
      · exact mem_zip h1 h2
    refine beg_leS (metOf_le (List.mem_map.mpr ⟨(row, T), inr, rfl⟩)) (beg_stIn t u _ T fun c hc => ?_)
    obtain ⟨a, b, p', rfl, e1, e2⟩ := call_kid gd h7 hc
    obtain ⟨z, hz⟩ : ∃ z, (trBs u)[b]? = some z := ⟨_, List.getElem?_eq_getElem (by
      have := (List.getElem?_eq_some_iff.mp e2).1
      omega)⟩
    have zl := bl b z hz
    have zo : isOf t.wood z p'.1 = true := isOfs_at h6 hz e2
    have me : madT t u (.call (a : Int) (b : Int)) = outT t a z := by
      obtain ⟨nm, mk, bs⟩ := u
      exact madT_call hz
    have zp : 1 ≤ levT z := by cases z; rw [levT]; omega
    simp only [Int.toNat_natCast]
    rw [me]
    match n, hl with
    | 0, hl => omega
    | n + 1, hl => exact out_beg n a p' z e1 zo (by omega)
end
section
variable {t : Trn} (gd : TnGd t)
include gd
end
end Mir
set_option Elab.async false
set_option linter.all false
set_option maxRecDepth 100000
set_option maxHeartbeats 4000000
namespace Mir
open PySem PySem.Spec L2
noncomputable section
def labelD (L : Lab) : D := .tuple [.str L.1, .int L.2.1, .int (L.2.2 : Nat)]
theorem ne_label {a b : Lab} (ha : PyData.strOk a.1 = true) (hb : PyData.strOk b.1 = true) : gNe (labelD a) (labelD b) = some (.bool (decide (a ≠ b))) := by
  unfold labelD
  rw [gNe_nice (nice_trip _ _ _ ha) (nice_trip _ _ _ hb)]
  have ev : PyData.eqv (.tuple [.str a.1, .int a.2.1, .int (a.2.2 : Nat)]) (.tuple [.str b.1, .int b.2.1, .int (b.2.2 : Nat)]) = decide (a = b) := by
    simp only [PyData.eqv, PyData.eqvAll, Bool.and_true]
    obtain ⟨a1, a2, a3⟩ := a
    obtain ⟨b1, b2, b3⟩ := b
    by_cases c : a1 = b1 ∧ a2 = b2 ∧ a3 = b3
    · obtain ⟨rfl, rfl, rfl⟩ := c
      simp
    · have : ¬ ((a1, a2, a3) : Lab) = (b1, b2, b3) := fun e => by
        cases e
        exact c ⟨rfl, rfl, rfl⟩
      rw [decide_eq_false this]
      simp only [Bool.and_eq_false_iff, beq_eq_false_iff_ne]
      by_cases c1 : a1 = b1
      · by_cases c2 : a2 = b2
        · exact .inr (.inr (fun e => c ⟨c1, c2, by omega⟩))
        · exact .inr (.inl c2)
      · exact .inl c1
  rw [ev]
  by_cases c : a = b <;> simp [c]
end
end Mir
set_option Elab.async false
set_option linter.all false
set_option maxRecDepth 100000
set_option maxHeartbeats 4000000
namespace Mir
open PySem PySem.Spec L2
noncomputable section
end
end Mir
set_option Elab.async false
set_option linter.all false
set_option maxRecDepth 100000
set_option maxHeartbeats 4000000
namespace Mir
open PySem PySem.Spec L2
noncomputable section
section
variable {t : Trn} {m N : Nat} {f0 f9 f11 f20 : List D → R Ow}
end
end
end Mir
set_option Elab.async false
set_option linter.all false
set_option maxRecDepth 100000
set_option maxHeartbeats 4000000
namespace Mir
open PySem PySem.Spec L2
noncomputable section
abbrev bLawRuleOf (f27 : List D → R Ow) : Ev → SR := (sSeq (sAsg (gtTup 2 (gtCons (gtName 3) (gtCons (gtName 4) gtNil))) (eBin gIx (eBin gIx (eVar 0) (eC (.int 2))) (eVar 1)))
    (sRet (eM (eBin gIx (eB (eLc (eB (aCons (eM (eB (aCons (eBin gIx (eVar 0) (eC (.int 0))) (aCons (eVar 3) aNil)) f27) viewD) (aCons (eVar 4) aNil)) zpArg) (gtTup 2 (gtCons (gtName 5) (gtCons (gtName 6) gtNil))) (eB (eBin gEq (eBin gIx (eVar 5) (eC (.int 0))) (eVar 2)) asB) (eM (eVar 6) Ow.d) (List.map (·.2) ([("_law_row", 5), ("_law_rule_here", 6)] : List (Str × Nat)))) shD) (eC (.int 0))) Ow.d)))
theorem lawRuleOf_fin {t : Trn} (gd : TnGd t) {f27 : List D → R Ow} {m : Nat} {p : Str × List Trm} (hm : t.modes[m]? = some p) (h27 : f27 [encWd t.wood, .str p.1] = .ok (.d (rwsD (rowsOf t.wood p.1)))) {i : Nat} {row : Rw} {T : Trm} (h1 : (rowsOf t.wood p.1)[i]? = some row) (h2 : p.2[i]? = some T) :
    finR (bLawRuleOf f27 (envOf 4 [encTn t, .int (m : Nat), .str row.nm])) = .ok (.d (encM T)) := by
  have he : envOf 4 [encTn t, .int (m : Nat), .str row.nm] = [some (.d (encTn t)), some (.d (.int (m : Nat))), some (.d (.str row.nm)), none, none, none, none] := rfl
  rw [he]
  have i0 := w_ix0 t
  have i2 : gIx (encTn t) (.int 2) = some (moD t.modes) := w_ix2 t
  have im := mo_ix hm
  have pm := List.mem_of_getElem? hm
  have few := (gd.ok.rows p pm).2
  refine fin_step (env1 := [some (.d (encTn t)), some (.d (.int (m : Nat))), some (.d (.str row.nm)), some (.d (.str p.1)), some (.d (trsD p.2)), none, none]) (by
    rw [encMo_tup] at im
    generalize trsD p.2 = T at im ⊢
    generalize moD t.modes = M at i2 im
    generalize encTn t = TT at i2
    simp [i2, im]) ?_
  have zl : ((rowsOf t.wood p.1).zip p.2).length ≤ 100 := by rw [List.length_zip]; omega
  have lc : (eLc (eB (aCons (eM (eB (aCons (eBin gIx (eVar 0) (eC (.int 0))) (aCons (eVar 3) aNil)) f27) viewD) (aCons (eVar 4) aNil)) zpArg) (gtTup 2 (gtCons (gtName 5) (gtCons (gtName 6) gtNil))) (eB (eBin gEq (eBin gIx (eVar 5) (eC (.int 0))) (eVar 2)) asB) (eM (eVar 6) Ow.d) (List.map (·.2) ([("_law_row", 5), ("_law_rule_here", 6)] : List (Str × Nat)))) [some (.d (encTn t)), some (.d (.int (m : Nat))), some (.d (.str row.nm)), some (.d (.str p.1)), some (.d (trsD p.2)), none, none] = .ok (.l ((((rowsOf t.wood p.1).zip p.2).filter fun q => q.1.nm == row.nm).map fun q => .d (encM q.2))) := by
    refine eLc_of (ds := ((rowsOf t.wood p.1).zip p.2).map encRT) ?_ (by rw [List.length_map, sizeLine_eq]; omega) (lcR_filt encRT (fun q => q.1.nm == row.nm) _ ((rowsOf t.wood p.1).zip p.2) fun q hq => ?_)
    · have z := zip_rt (rowsOf t.wood p.1) p.2
      have vd : viewD (.d (rwsD (rowsOf t.wood p.1))) = rwsD (rowsOf t.wood p.1) := rfl
      generalize rwsD (rowsOf t.wood p.1) = RS at z h27 vd
      generalize trsD p.2 = TS at z
      generalize encWd t.wood = W at i0 h27
      generalize encTn t = TN at i0
      simp [i0, h27, z]
    · refine ⟨[some (.d (encTn t)), some (.d (.int (m : Nat))), some (.d (.str row.nm)), some (.d (.str p.1)), some (.d (trsD p.2)), some (.d (encRw q.1)), some (.d (encM q.2))], rfl, ?_, fun _ => rfl⟩
      have r0 := rw_ix0 q.1
      generalize encM q.2 = A
      generalize encRw q.1 = B at r0
      generalize trsD p.2 = T
      generalize encTn t = TT
      simp [gEq_str, r0]
  have mem : (row, T) ∈ ((rowsOf t.wood p.1).zip p.2).filter fun q => q.1.nm == row.nm := List.mem_filter.mpr ⟨mem_zip h1 h2, beq_self_eq_true _⟩
  have ne := List.length_pos_of_mem mem
  have h0 := List.getElem?_eq_getElem ne
  obtain ⟨q0, hq0⟩ : ∃ q0, q0 = (((rowsOf t.wood p.1).zip p.2).filter fun q => q.1.nm == row.nm)[0] := ⟨_, rfl⟩
  rw [← hq0] at h0
  obtain ⟨z1, z2⟩ := List.mem_filter.mp (List.mem_of_getElem? h0)
  have qT : q0.2 = T := by
    obtain ⟨j, j1, j2⟩ := zip_at z1
    have a := rule_row gd hm j1 j2
    have b := rule_row gd hm h1 h2
    rw [eq_of_beq z2, b] at a
    exact a.symm
  have ix : gIx (.list ((((rowsOf t.wood p.1).zip p.2).filter fun q => q.1.nm == row.nm).map fun q => encM q.2)) (.int 0) = some (encM T) := by
    show atI _ _ = _
    exact atI_natD (k := 0) (by rw [List.getElem?_map, h0, ← qT]; rfl)
  have sh : shD (.l ((((rowsOf t.wood p.1).zip p.2).filter fun q => q.1.nm == row.nm).map fun q => .d (encM q.2))) = .ok (.list ((((rowsOf t.wood p.1).zip p.2).filter fun q => q.1.nm == row.nm).map fun q => encM q.2)) := unDs_of (fun q : Rw × Trm => encM q.2) _
  rw [sRet_eq, eM_eq, eBin_eq, eB_eq, lc, R.bind_ok, sh, R.bind_ok]
  generalize PyData.list ((((rowsOf t.wood p.1).zip p.2).filter fun q => q.1.nm == row.nm).map fun q => encM q.2) = LL at ix
  simp [ix]
end
end Mir
set_option Elab.async false
set_option linter.all false
set_option maxRecDepth 100000
set_option maxHeartbeats 4000000
namespace Mir
open PySem PySem.Spec L2
noncomputable section
theorem zipD_map {α β : Type} (f : α → D) (g : β → D) : ∀ (as : List α) (bs : List β), zipD (as.map f) (bs.map g) = (as.zip bs).map fun p => .tuple [f p.1, g p.2]
  | [], bs => by cases bs <;> rfl
  | a :: as, [] => rfl
  | a :: as, b :: bs => by
    show PyData.tuple [f a, g b] :: zipD (as.map f) (bs.map g) = _
    rw [zipD_map f g as bs]
    rfl
end
end Mir
set_option Elab.async false
set_option linter.all false
set_option maxRecDepth 100000
set_option maxHeartbeats 4000000
namespace Mir
open PySem PySem.Spec L2
section
variable {t : Trn} (gd : TnGd t)
include gd
theorem rows_few (k : Str) : (rowsOf t.wood k).length ≤ 100 := by
  rcases rowsK_or t.wood k with h | ⟨p, hp, _, h⟩
  · rw [h]; simp
  · rw [h]; exact (gd.ok.names p hp).2.1
theorem row_of {k : Str} {r : Rw} (hr : r ∈ rowsOf t.wood k) : PyData.strOk r.nm = true ∧ r.br.length ≤ 4 ∧ (∀ z ∈ r.br, ∃ q ∈ t.wood, q.1 = z) ∧ ∀ z ∈ r.br, PyData.strOk z = true := by
  obtain ⟨p, hp, h⟩ := rowsOf_in r hr
  obtain ⟨a, b, c⟩ := (gd.rows p hp).2.2 r h
  exact ⟨a, b, c, ((gd.ok.names p hp).2.2 r h).2.2⟩
theorem tab_okS (n m : Nat) : okS ((tab (mds t) n).getD m .op) ∧ levS ((tab (mds t) n).getD m .op) ≤ 60 := by
  rw [List.getD_eq_getElem?_getD]
  cases h : (tab (mds t) n)[m]? with
  | none => rw [Option.getD_none, okS, levS]; exact ⟨trivial, by decide⟩
  | some s => exact tab_good60 gd.ok n s (List.mem_of_getElem? h)
theorem tab_at {n m : Nat} {p : Str × List Trm} (hm : t.modes[m]? = some p) : m < (tab (mds t) n).length := by
  rw [tab_len]
  unfold mds
  rw [List.length_map]
  exact (List.getElem?_eq_some_iff.mp hm).1
end
/-- what a split must be -/
structure SplitAt (t : Trn) (m : Nat) (q : List Nat) (k : Nat) (v u : Tr) : Prop where
  kind : ∀ p, t.modes[m]? = some p → isOf t.wood v p.1 = true ∧ isOf t.wood u p.1 = true
  lev : levT v = 1 ∧ levT u ≤ k + 1 ∧ (if levT v < levT u then levT u else levT v) = k + 1
  part : ∃ y z, trAt (outT t m v) q = some y ∧ trAt (outT t m u) q = some z ∧ labT y ≠ labT z
section
variable {t : Trn} (gd : TnGd t)
include gd
end
end Mir
set_option Elab.async false
set_option linter.all false
set_option maxRecDepth 100000
set_option maxHeartbeats 4000000
namespace Mir
open PySem PySem.Spec L2
section
variable {t : Trn} (gd : TnGd t)
include gd
end
end Mir
set_option Elab.async false
set_option linter.all false
set_option maxRecDepth 100000
set_option maxHeartbeats 4000000
namespace Mir
open PySem PySem.Spec L2
noncomputable section
abbrev bLawBegins (f : List D → R Ow) : Ev → SR := (sSeq (sIf (eB (eBin gEq (eBin gIx (eVar 0) (eC (.int 0))) (eC (.str "open"))) asB)
    (sRet (eM (eC (.bool true)) Ow.d))
    sSkip)
    (sSeq (sIf (eB (eBin gNe (eTup (aCons (eBin gIx (eVar 0) (eC (.int 1))) (aCons (eBin gIx (eVar 0) (eC (.int 2))) (aCons (eM (eCa gLen (aCons (eBin gIx (eVar 0) (eC (.int 3))) aNil)) viewD) aNil)))) (eTup (aCons (eBin gIx (eVar 1) (eC (.int 0))) (aCons (eBin gIx (eVar 1) (eC (.int 1))) (aCons (eM (eCa gLen (aCons (eBin gIx (eVar 1) (eC (.int 2))) aNil)) viewD) aNil))))) asB)
    (sRet (eM (eC (.bool false)) Ow.d))
    sSkip)
    (sSeq (sFor (eB (aCons (eBin gIx (eVar 0) (eC (.int 3))) (aCons (eBin gIx (eVar 1) (eC (.int 2))) aNil)) zpArg) (gtTup 2 (gtCons (gtName 2) (gtCons (gtName 3) gtNil)))
    (zipB f))
    (sRet (eM (eC (.bool true)) Ow.d)))))
/-- where it does begin so -/
theorem lawBegins_fin {f : List D → R Ow} (s : Stp) (t : Tr) (os : okS s) (hb : beg s t = true) (h : ∀ nm k ps nm' k' bs, s = .put nm k ps → t = .mk nm' k' bs → ∀ z ∈ ps.zip bs, beg z.1 z.2 = true → f [encS z.1, encT z.2] = .ok (.d (.bool true))) : finR (bLawBegins f (envOf 2 [encS s, encT t])) = .ok (.d (.bool true)) := by
  cases s with
  | op =>
    have he : envOf 2 [encS .op, encT t] = [some (.d (encS .op)), some (.d (encT t)), none, none] := rfl
    rw [he]
    have o0 := o_ix0
    generalize encS .op = S at o0
    generalize encT t = T
    simp [o0, gEq_str]
  | put nm k ps =>
    obtain ⟨nm', k', bs⟩ := t
    rw [beg, begs_zip] at hb
    simp only [Bool.and_eq_true] at hb
    obtain ⟨c1, c2, c3, c4⟩ := hb
    have c1 := eq_of_beq c1
    have c2 := eq_of_beq c2
    have c3 := eq_of_beq c3
    subst c1 c2
    rw [okS] at os
    have ne := ne_label (a := (nm, k, ps.length)) (b := (nm, k, ps.length)) os.1 os.1
    have e2 : labelD (nm, k, ps.length) = .tuple [.str nm, .int k, .int (ps.length : Nat)] := rfl
    rw [e2, decide_eq_false (fun c => c rfl)] at ne
    have he : envOf 2 [encS (.put nm k ps), encT (.mk nm k bs)] = [some (.d (encS (.put nm k ps))), some (.d (encT (.mk nm k bs))), none, none] := rfl
    rw [he]
    have p0 := p_ix0 nm k ps
    have p1 := p_ix1 nm k ps
    have p2 := p_ix2 nm k ps
    have p3 := p_ix3 nm k ps
    have t0 := t_ix0 nm k bs
    have t1 := t_ix1 nm k bs
    have t2 := t_ix2 nm k bs
    have lp := tup_len (ps.map encS)
    have lb := tup_len (bs.map encT)
    rw [List.length_map] at lp lb
    rw [← c3] at lb
    have po : (Str.ofString "put" == Str.ofString "open") = false := by decide +kernel
    have zp := zpArg_tup (ps.map encS) (bs.map encT)
    rw [zipD_map] at zp
    refine fin_step (env1 := [some (.d (encS (.put nm k ps))), some (.d (encT (.mk nm k bs))), none, none]) (by
      generalize encS (.put nm k ps) = S at p0
      generalize encT (.mk nm k bs) = T
      simp [p0, gEq_str, po]) ?_
    refine fin_step (env1 := [some (.d (encS (.put nm k ps))), some (.d (encT (.mk nm k bs))), none, none]) (by
      generalize PyData.tuple (ps.map encS) = PS at p3 lp
      generalize PyData.tuple (bs.map encT) = BS at t2 lb
      generalize encS (.put nm k ps) = S at p1 p2 p3
      generalize encT (.mk nm k bs) = T at t0 t1 t2
      generalize ((ps.length : Nat) : Int) = z at lp lb ne
      simp [p1, p2, p3, t0, t1, t2, lp, lb, ne, sizeLine_eq]) ?_
    have it : (eB (aCons (eBin gIx (eVar 0) (eC (.int 3))) (aCons (eBin gIx (eVar 1) (eC (.int 2))) aNil)) zpArg) [some (.d (encS (.put nm k ps))), some (.d (encT (.mk nm k bs))), none, none] = .ok ((ps.zip bs).map fun p => .tuple [encS p.1, encT p.2]) := by
      generalize PyData.tuple (ps.map encS) = PS at p3 zp
      generalize PyData.tuple (bs.map encT) = BS at t2 zp
      generalize encS (.put nm k ps) = S at p3
      generalize encT (.mk nm k bs) = T at t2
      simp [p3, t2, zp]
    have all : ∀ z ∈ ps.zip bs, beg z.1 z.2 = true := by
      have : ∀ (as : List Stp) (cs : List Tr), zipAll beg as cs = true → ∀ z ∈ as.zip cs, beg z.1 z.2 = true := fun as => by
        induction as with
        | nil => intro cs _ z hz; cases cs <;> cases hz
        | cons a as ih => intro cs h z hz; cases cs with
          | nil => cases hz
          | cons c cs =>
            rw [zipAll, Bool.and_eq_true] at h
            rcases List.mem_cons.mp hz with rfl | hz
            · exact h.1
            · exact ih cs h.2 z hz
      exact this ps bs c4
    obtain ⟨env', e1, x2, x3, e2⟩ := forL_map (g := gtTup 2 (gtCons (gtName 2) (gtCons (gtName 3) gtNil))) (f := zipB f) (fun p : Stp × Tr => .tuple [encS p.1, encT p.2]) (ps.zip bs) (fun i env => ∃ x2 x3, env = [some (.d (encS (.put nm k ps))), some (.d (encT (.mk nm k bs))), x2, x3]) (fun i z env hz ⟨x2, x3, he⟩ => by
      subst he
      have hm := List.mem_of_getElem? hz
      have hh := h nm k ps nm k bs rfl rfl z hm (all z hm)
      refine ⟨[some (.d (encS (.put nm k ps))), some (.d (encT (.mk nm k bs))), some (.d (encS z.1)), some (.d (encT z.2))], rfl, [some (.d (encS (.put nm k ps))), some (.d (encT (.mk nm k bs))), some (.d (encS z.1)), some (.d (encT z.2))], .inl ?_, _, _, rfl⟩
      generalize encS (.put nm k ps) = S
      generalize encT (.mk nm k bs) = T
      generalize encS z.1 = S1 at hh
      generalize encT z.2 = T1 at hh
      simp [hh]) [some (.d (encS (.put nm k ps))), some (.d (encT (.mk nm k bs))), none, none] ⟨none, none, rfl⟩
    rw [sSeq_eq, sFor_eq, it, R.st_ok, e1]
    rfl
abbrev bLawMade2 (f41 f43 : List D → R Ow) : Ev → SR := (sRet (eB (aCons (eVar 0) (aCons (eM (eB (aCons (eVar 0) (aCons (eVar 1) (aCons (eBin gIx (eVar 2) (eC (.int 0))) aNil))) f41) viewD) (aCons (eVar 2) aNil))) f43))
theorem lawMade2_fin {f41 f43 : List D → R Ow} {TN M RT : D} {u : Tr} {o : Ow} (h41 : f41 [TN, M, .str (trNm u)] = .ok (.d RT)) (h43 : f43 [TN, RT, encT u] = .ok o) : finR (bLawMade2 f41 f43 (envOf 0 [TN, M, encT u])) = .ok o := by
  have he : envOf 0 [TN, M, encT u] = [some (.d TN), some (.d M), some (.d (encT u))] := rfl
  rw [he]
  have u0 : gIx (encT u) (.int 0) = some (.str (trNm u)) := by obtain ⟨nm, mk, bs⟩ := u; exact t_ix0 nm mk bs
  generalize encT u = U at u0 h43
  simp [u0, h41, h43]
abbrev bLawMadeBy (f42 f43 : List D → R Ow) : Ev → SR := (sSeq (sIf (eB (eBin gEq (eBin gIx (eVar 1) (eC (.int 0))) (eC (.str "call"))) asB)
    (sRet (eB (aCons (eVar 0) (aCons (eBin gIx (eVar 1) (eC (.int 1))) (aCons (eBin gIx (eBin gIx (eVar 2) (eC (.int 2))) (eBin gIx (eVar 1) (eC (.int 2)))) aNil))) f42))
    sSkip)
    (sSeq (sSet 3 (eM (eM (eLc (eB (eBin gIx (eVar 1) (eC (.int 4))) itD) (gtName 4) cYes (eB (aCons (eVar 0) (aCons (eVar 4) (aCons (eVar 2) aNil))) f43) (List.map (·.2) ([("_law_part", 4)] : List (Str × Nat)))) viewD) Ow.d))
    (sRet (eM (eTup (aCons (eBin gIx (eVar 1) (eC (.int 1))) (aCons (eM (eBinO gAdd (eBin gIx (eVar 1) (eC (.int 3))) (eBin gMul (eBin gIx (eVar 2) (eC (.int 1))) (eM (eCa gInt (aCons (eBin gIx (eVar 1) (eC (.int 2))) aNil)) viewD))) viewD) (aCons (eM (eCa gTuple (aCons (eVar 3) aNil)) viewD) aNil)))) Ow.d))))
theorem lawMadeBy_call {f42 f43 : List D → R Ow} {TN : D} {nm : Str} {mk : Int} {bs : List Tr} {i : Nat} {b : Tr} {m : Int} {o : Ow} (hb : bs[i]? = some b) (h42 : f42 [TN, .int m, encT b] = .ok o) : finR (bLawMadeBy f42 f43 (envOf 2 [TN, encM (.call m (i : Nat)), encT (.mk nm mk bs)])) = .ok o := by
  have he : envOf 2 [TN, encM (.call m (i : Nat)), encT (.mk nm mk bs)] = [some (.d TN), some (.d (encM (.call m (i : Nat)))), some (.d (encT (.mk nm mk bs))), none, none] := rfl
  rw [he]
  have c0 := c_ix0 m (i : Int)
  have c1 := c_ix1 m (i : Int)
  have c2 := c_ix2 m (i : Int)
  have i2 := t_ix2 nm mk bs
  have ib : gIx (.tuple (bs.map encT)) (.int (i : Nat)) = some (encT b) := by
    show atI (bs.map encT) _ = _
    exact atI_natD (by rw [List.getElem?_map, hb]; rfl)
  generalize PyData.tuple (bs.map encT) = TB at i2 ib
  generalize encT (.mk nm mk bs) = RD at i2
  generalize encM (.call m (i : Int)) = E at c0 c1 c2
  generalize encT b = EB at ib h42
  simp [c0, c1, c2, gEq_str, i2, ib, h42]
theorem lawMadeBy_put {f42 f43 : List D → R Ow} {TN : D} {nm : Str} {kp : Bool} {ad : Int} {ps : List Trm} {n2 : Str} {mk : Int} {bs : List Tr} (g : Trm → Tr) (hl : ps.length ≤ 1000) (h43 : ∀ p ∈ ps, f43 [TN, encM p, encT (.mk n2 mk bs)] = .ok (.d (encT (g p)))) : finR (bLawMadeBy f42 f43 (envOf 2 [TN, encM (.put nm kp ad ps), encT (.mk n2 mk bs)])) = .ok (.d (encT (.mk nm (mkOf kp ad mk) (ps.map g)))) := by
  have he : envOf 2 [TN, encM (.put nm kp ad ps), encT (.mk n2 mk bs)] = [some (.d TN), some (.d (encM (.put nm kp ad ps))), some (.d (encT (.mk n2 mk bs))), none, none] := rfl
  rw [he]
  have m0 := m_ix0 nm kp ad ps
  have m1 := m_ix1 nm kp ad ps
  have m2 := m_ix2 nm kp ad ps
  have m3 := m_ix3 nm kp ad ps
  have m4 := m_ix4 nm kp ad ps
  have j1 := t_ix1 n2 mk bs
  have pc : (Str.ofString "put" == Str.ofString "call") = false := by decide +kernel
  refine fin_step (env1 := [some (.d TN), some (.d (encM (.put nm kp ad ps))), some (.d (encT (.mk n2 mk bs))), none, none]) (by
    generalize encM (.put nm kp ad ps) = E at m0
    generalize encT (.mk n2 mk bs) = RD
    simp [m0, gEq_str, pc]) ?_
  have lc : (eLc (eB (eBin gIx (eVar 1) (eC (.int 4))) itD) (gtName 4) cYes (eB (aCons (eVar 0) (aCons (eVar 4) (aCons (eVar 2) aNil))) f43) (List.map (·.2) ([("_law_part", 4)] : List (Str × Nat)))) [some (.d TN), some (.d (encM (.put nm kp ad ps))), some (.d (encT (.mk n2 mk bs))), none, none] = .ok (.l (ps.map fun p => .d (encT (g p)))) := by
    refine eLc_of (ds := ps.map encM) ?_ (by rw [List.length_map, sizeLine_eq]; omega) (lcR_map encM _ ps fun p hp => ⟨[some (.d TN), some (.d (encM (.put nm kp ad ps))), some (.d (encT (.mk n2 mk bs))), none, some (.d (encM p))], rfl, rfl, ?_⟩)
    · have it : itD (.tuple (ps.map encM)) = .ok (ps.map encM) := rfl
      generalize PyData.tuple (ps.map encM) = TP at m4 it
      generalize encM (.put nm kp ad ps) = E at m4
      generalize encT (.mk n2 mk bs) = RD
      simp [m4, it]
    · have h := h43 p hp
      generalize encM (.put nm kp ad ps) = E
      generalize encM p = P at h
      generalize encT (.mk n2 mk bs) = RD at h
      simp [h]
  have vc : viewD (.l (ps.map fun p => .d (encT (g p)))) = .list (ps.map fun p => encT (g p)) := viewD_of _ _
  have gt : gTuple [.list (ps.map fun p => encT (g p))] = some (.d (.tuple (ps.map fun p => encT (g p)))) := rfl
  have ee : encT (.mk nm (mkOf kp ad mk) (ps.map g)) = .tuple [.str nm, .int (mkOf kp ad mk), .tuple (ps.map fun p => encT (g p))] := by rw [encT_mk, List.map_map]; rfl
  refine fin_step (env1 := [some (.d TN), some (.d (encM (.put nm kp ad ps))), some (.d (encT (.mk n2 mk bs))), some (.d (.list (ps.map fun p => encT (g p)))), none]) (by
    rw [sSet_eq, eM_eq, eM_eq]
    refine (congrArg (fun r => R.st _ (R.map Ow.d (R.map viewD r)) _) lc).trans ?_
    rw [R.map_ok, R.map_ok, vc, R.st_ok]
    rfl) ?_
  have mke : mkOf kp ad mk = ad + mk * (if kp = true then 1 else 0) := by unfold mkOf; cases kp <;> simp
  rw [ee, mke]
  have gi : gInt [.bool kp] = some (.d (.int (if kp = true then 1 else 0))) := gInt_bool kp
  have gm : gMul (.int mk) (.int (if kp = true then 1 else 0)) = some (.int (mk * (if kp = true then 1 else 0))) := by
    cases kp
    · exact gMul_by (by decide) (by decide)
    · exact gMul_by (by decide) (by decide)
  generalize (if kp = true then (1 : Int) else 0) = z at gm gi ⊢
  generalize PyData.bool kp = KB at gi m2
  generalize PyData.list (ps.map fun p => encT (g p)) = LL at gt
  generalize PyData.tuple (ps.map fun p => encT (g p)) = TT at gt ⊢
  generalize encM (.put nm kp ad ps) = E at m1 m2 m3
  generalize encT (.mk n2 mk bs) = RD at j1
  simp [m1, m2, m3, j1, gt, gi, gm, sizeLine_eq]
theorem lcX_dkZ {α β : Type} {g : D → Ev → Option Ev} {fe : Ev → R (D × Ev)} {vs : List Nat} (enc : α → D) (out : β → D) (P : α → β → Prop) (E : List Int → Ev) : ∀ (items : List α), (∀ a ∈ items, ∀ dk, ∃ (env1 : Ev) (b : β) (env2 : Ev) (dk' : List Int), g (enc a) (E dk) = some env1 ∧ fe env1 = .ok (out b, env2) ∧ wipeE env2 vs = E dk' ∧ P a b) →
    ∀ dk, ∃ (bs : List β) (dk' : List Int), lcX g fe vs (E dk) (items.map enc) = .ok (bs.map out, E dk') ∧ bs.length = items.length ∧ ∀ q ∈ items.zip bs, P q.1 q.2
  | [], _, dk => ⟨[], dk, rfl, rfl, fun b h => (by cases h)⟩
  | a :: items, h, dk => by
    obtain ⟨env1, b, env2, dk1, h1, h2, h3, h4⟩ := h a List.mem_cons_self dk
    obtain ⟨bs, dk', i1, i2, i3⟩ := lcX_dkZ enc out P E items (fun c hc => h c (List.mem_cons_of_mem _ hc)) dk1
    refine ⟨b :: bs, dk', ?_, by simp [i2], fun c hc => ?_⟩
    · rw [List.map_cons]
      unfold lcX
      rw [h1]
      simp only [h2, R.bind_ok, h3, i1]
      rfl
    · rw [List.zip_cons_cons] at hc
      rcases List.mem_cons.mp hc with rfl | hc
      · exact h4
      · exact i3 c hc
abbrev bLawTree (f27 fd fm fr : List D → R Ow) : Ev → SR := (sSeq (sSet 4 (eM (eM (eB (aCons (eVar 1) (aCons (eVar 2) aNil)) f27) viewD) Ow.d))
    (sSeq (sIf (eB (eBin gEq (eVar 3) (eC (.int 1))) asB)
    (sSet 4 (eM (eM (eLc (eB (eVar 4) itD) (gtName 5) (eB (eBin gEq (eBin gIx (eVar 5) (eC (.int 1))) (eTup aNil)) asB) (eM (eVar 5) Ow.d) (List.map (·.2) ([("_law_row", 5)] : List (Str × Nat)))) viewD) Ow.d))
    sSkip)
    (sSeq (sXAsg (gtTup 2 (gtCons (gtName 6) (gtCons (gtName 7) gtNil))) (xBin gIx (xP (eVar 4)) (xCallK fd 0 (xCons (xP (eM (eCa gLen (aCons (eVar 4) aNil)) viewD)) xNil))))
    (sSeq (sXSet 8 (xCallK fm 0 xNil))
    (sXRet (xTup (xCons (xP (eVar 6)) (xCons (xP (eVar 8)) (xCons (xCa gTuple (xCons (xLc (eB (eVar 7) itD) (gtName 9) (xCallK fr 0 (xCons (xP (eVar 1)) (xCons (xP (eVar 9)) (xCons (xP (eBin gSub (eVar 3) (eC (.int 1)))) xNil)))) (List.map (·.2) ([("_law_branch", 9)] : List (Str × Nat)))) xNil)) xNil)))))))))
theorem lawTree_fin {t : Trn} (gd : TnGd t) {f27 fd fm fr : List D → R Ow} (hd : Draws fd) (hm : Marks fm) {k : Str} (hk : ∃ q ∈ t.wood, q.1 = k) (h27 : f27 [encWd t.wood, .str k] = .ok (.d (rwsD (rowsOf t.wood k)))) (deep : Nat) (hdeep : 1 ≤ deep)
    (hr : 1 < deep → ∀ z, (∃ q ∈ t.wood, q.1 = z) → ∀ dk, ∃ u dk', (isOf t.wood u z = true ∧ levT u ≤ deep - 1) ∧ fr (dkD dk :: [encWd t.wood, .str z, .int ((deep : Int) - 1)]) = tells (encT u) dk') (dk : List Int) :
    ∃ u dk', (isOf t.wood u k = true ∧ levT u ≤ deep) ∧ finK (bLawTree f27 fd fm fr (some (dkO dk) :: envOf 6 [encWd t.wood, .str k, .int (deep : Nat)])) = tells (encT u) dk' := by
  have he : (some (dkO dk) :: envOf 6 [encWd t.wood, .str k, .int (deep : Nat)]) = [some (dkO dk), some (.d (encWd t.wood)), some (.d (.str k)), some (.d (.int (deep : Nat))), none, none, none, none, none, none] := rfl
  rw [he]
  obtain ⟨i0, row0, b1, b2, _⟩ := leaf_row gd hk
  have few := rows_few gd k
  -- the rows to draw from
  obtain ⟨rs, hne, hsub, hbare, s1⟩ : ∃ rs : List Rw, rs ≠ [] ∧ (∀ r ∈ rs, r ∈ rowsOf t.wood k) ∧ (deep = 1 → ∀ r ∈ rs, r.br = []) ∧ ∃ x5, (sIf (eB (eBin gEq (eVar 3) (eC (.int 1))) asB)
    (sSet 4 (eM (eM (eLc (eB (eVar 4) itD) (gtName 5) (eB (eBin gEq (eBin gIx (eVar 5) (eC (.int 1))) (eTup aNil)) asB) (eM (eVar 5) Ow.d) (List.map (·.2) ([("_law_row", 5)] : List (Str × Nat)))) viewD) Ow.d))
    sSkip) [some (dkO dk), some (.d (encWd t.wood)), some (.d (.str k)), some (.d (.int (deep : Nat))), some (.d (rwsD (rowsOf t.wood k))), none, none, none, none, none] = .nx [some (dkO dk), some (.d (encWd t.wood)), some (.d (.str k)), some (.d (.int (deep : Nat))), some (.d (rwsD rs)), x5, none, none, none, none] := by
    by_cases c : deep = 1
    · refine ⟨(rowsOf t.wood k).filter fun r => r.br.isEmpty, ?_, fun r hr => (List.mem_filter.mp hr).1, fun _ r hr => by simpa using (List.mem_filter.mp hr).2, none, ?_⟩
      · intro z
        have := List.mem_filter (p := fun r : Rw => r.br.isEmpty).mpr ⟨List.mem_of_getElem? b1, by simp [b2]⟩
        rw [z] at this
        cases this
      · have lc : (eLc (eB (eVar 4) itD) (gtName 5) (eB (eBin gEq (eBin gIx (eVar 5) (eC (.int 1))) (eTup aNil)) asB) (eM (eVar 5) Ow.d) (List.map (·.2) ([("_law_row", 5)] : List (Str × Nat)))) [some (dkO dk), some (.d (encWd t.wood)), some (.d (.str k)), some (.d (.int (deep : Nat))), some (.d (rwsD (rowsOf t.wood k))), none, none, none, none, none] = .ok (.l (((rowsOf t.wood k).filter fun r => r.br.isEmpty).map fun r => .d (encRw r))) := by
          refine eLc_of (ds := (rowsOf t.wood k).map encRw) rfl (by rw [List.length_map, sizeLine_eq]; omega) (lcR_filt encRw (fun r => r.br.isEmpty) _ (rowsOf t.wood k) fun r hr => ⟨[some (dkO dk), some (.d (encWd t.wood)), some (.d (.str k)), some (.d (.int (deep : Nat))), some (.d (rwsD (rowsOf t.wood k))), some (.d (encRw r)), none, none, none, none], rfl, ?_, fun _ => rfl⟩)
          have r1 : gIx (encRw r) (.int 1) = some (.tuple (r.br.map PyData.str)) := rw_ix1 r
          have be := bare_eq (row_of gd hr).2.2.2
          generalize PyData.tuple (r.br.map PyData.str) = B at r1 be
          generalize encRw r = RW at r1
          generalize rwsD (rowsOf t.wood k) = RS
          generalize encWd t.wood = W
          generalize some (dkO dk) = a0
          simp [r1, be, sizeLine_eq]
        have vw : viewD (.l (((rowsOf t.wood k).filter fun r => r.br.isEmpty).map fun r => .d (encRw r))) = rwsD ((rowsOf t.wood k).filter fun r => r.br.isEmpty) := viewD_of encRw _
        have ct : (eB (eBin gEq (eVar 3) (eC (.int 1))) asB) [some (dkO dk), some (.d (encWd t.wood)), some (.d (.str k)), some (.d (.int (deep : Nat))), some (.d (rwsD (rowsOf t.wood k))), none, none, none, none, none] = .ok true := by
          subst c
          rfl
        rw [sIf_eq, ct, R.st_ok, if_pos rfl, sSet_eq, eM_eq, eM_eq, lc, R.map_ok, R.map_ok, vw, R.st_ok]
        rfl
    · refine ⟨rowsOf t.wood k, ?_, fun r hr => hr, fun h => absurd h c, none, ?_⟩
      · intro z
        rw [z] at b1
        simp at b1
      · have c' : ¬ (deep : Int) = 1 := by omega
        have ct : (eB (eBin gEq (eVar 3) (eC (.int 1))) asB) [some (dkO dk), some (.d (encWd t.wood)), some (.d (.str k)), some (.d (.int (deep : Nat))), some (.d (rwsD (rowsOf t.wood k))), none, none, none, none, none] = .ok false := by
          generalize rwsD (rowsOf t.wood k) = RS
          generalize encWd t.wood = W
          generalize some (dkO dk) = a0
          simp [c']
        rw [sIf_eq, ct]
        rfl
  obtain ⟨x5, s1⟩ := s1
  have s0 : (sSet 4 (eM (eM (eB (aCons (eVar 1) (aCons (eVar 2) aNil)) f27) viewD) Ow.d)) [some (dkO dk), some (.d (encWd t.wood)), some (.d (.str k)), some (.d (.int (deep : Nat))), none, none, none, none, none, none] = .nx [some (dkO dk), some (.d (encWd t.wood)), some (.d (.str k)), some (.d (.int (deep : Nat))), some (.d (rwsD (rowsOf t.wood k))), none, none, none, none, none] := by
    generalize rwsD (rowsOf t.wood k) = RS at h27 ⊢
    generalize encWd t.wood = W at h27 ⊢
    generalize some (dkO dk) = a0
    simp [h27]
  have rl : 0 < rs.length := List.length_pos_iff.mpr hne
  obtain ⟨r, dk1, r0, r1, e1⟩ := hd dk (rs.length : Nat) (by omega)
  obtain ⟨j, rfl⟩ : ∃ j : Nat, r = (j : Int) := ⟨r.toNat, by omega⟩
  obtain ⟨row, hrow⟩ : ∃ row, rs[j]? = some row := ⟨_, List.getElem?_eq_getElem (by omega)⟩
  have hr0 := hsub row (List.mem_of_getElem? hrow)
  obtain ⟨o1, o2, o3, o4⟩ := row_of gd hr0
  have x1 : xBin gIx (xP (eVar 4)) (xCallK fd 0 (xCons (xP (eM (eCa gLen (aCons (eVar 4) aNil)) viewD)) xNil)) [some (dkO dk), some (.d (encWd t.wood)), some (.d (.str k)), some (.d (.int (deep : Nat))), some (.d (rwsD rs)), x5, none, none, none, none] = .ok (encRw row, [some (dkO dk1), some (.d (encWd t.wood)), some (.d (.str k)), some (.d (.int (deep : Nat))), some (.d (rwsD rs)), x5, none, none, none, none]) := by
    have c1 : xCallK fd 0 (xCons (xP (eM (eCa gLen (aCons (eVar 4) aNil)) viewD)) xNil) [some (dkO dk), some (.d (encWd t.wood)), some (.d (.str k)), some (.d (.int (deep : Nat))), some (.d (rwsD rs)), x5, none, none, none, none] = .ok (.int (j : Nat), [some (dkO dk1), some (.d (encWd t.wood)), some (.d (.str k)), some (.d (.int (deep : Nat))), some (.d (rwsD rs)), x5, none, none, none, none]) :=
      xCallK_dk (env1 := [some (dkO dk), some (.d (encWd t.wood)), some (.d (.str k)), some (.d (.int (deep : Nat))), some (.d (rwsD rs)), x5, none, none, none, none]) (ds := [.int (rs.length : Nat)]) (dk0 := dk) (dk := dk) rfl (by
        have ln := rws_len rs
        generalize rwsD rs = RS at ln
        generalize encWd t.wood = W
        generalize some (dkO dk) = a0
        simp [ln]) rfl e1
    have ix : gIx (rwsD rs) (.int (j : Nat)) = some (encRw row) := by
      show atI _ _ = _
      exact atI_natD (by rw [List.getElem?_map, hrow]; rfl)
    have ep : xP (eVar 4) [some (dkO dk), some (.d (encWd t.wood)), some (.d (.str k)), some (.d (.int (deep : Nat))), some (.d (rwsD rs)), x5, none, none, none, none] = .ok (rwsD rs, [some (dkO dk), some (.d (encWd t.wood)), some (.d (.str k)), some (.d (.int (deep : Nat))), some (.d (rwsD rs)), x5, none, none, none, none]) := rfl
    rw [xBin_eq, ep, R.bind_ok]
    simp only [c1, R.bind_ok, ix, R.of_some]
  have s2 : sXAsg (gtTup 2 (gtCons (gtName 6) (gtCons (gtName 7) gtNil))) (xBin gIx (xP (eVar 4)) (xCallK fd 0 (xCons (xP (eM (eCa gLen (aCons (eVar 4) aNil)) viewD)) xNil))) [some (dkO dk), some (.d (encWd t.wood)), some (.d (.str k)), some (.d (.int (deep : Nat))), some (.d (rwsD rs)), x5, none, none, none, none] = .nx [some (dkO dk1), some (.d (encWd t.wood)), some (.d (.str k)), some (.d (.int (deep : Nat))), some (.d (rwsD rs)), x5, some (.d (.str row.nm)), some (.d (.tuple (row.br.map PyData.str))), none, none] := by
    rw [sXAsg_eq, x1]
    rfl
  obtain ⟨mk, dk2, e2⟩ := hm dk1
  have s3 : sXSet 8 (xCallK fm 0 xNil) [some (dkO dk1), some (.d (encWd t.wood)), some (.d (.str k)), some (.d (.int (deep : Nat))), some (.d (rwsD rs)), x5, some (.d (.str row.nm)), some (.d (.tuple (row.br.map PyData.str))), none, none] = .nx [some (dkO dk2), some (.d (encWd t.wood)), some (.d (.str k)), some (.d (.int (deep : Nat))), some (.d (rwsD rs)), x5, some (.d (.str row.nm)), some (.d (.tuple (row.br.map PyData.str))), some (.d (.int mk)), none] :=
    sXSet_of (env1 := [some (dkO dk2), some (.d (encWd t.wood)), some (.d (.str k)), some (.d (.int (deep : Nat))), some (.d (rwsD rs)), x5, some (.d (.str row.nm)), some (.d (.tuple (row.br.map PyData.str))), none, none]) (xCallK_dk (env1 := [some (dkO dk1), some (.d (encWd t.wood)), some (.d (.str k)), some (.d (.int (deep : Nat))), some (.d (rwsD rs)), x5, some (.d (.str row.nm)), some (.d (.tuple (row.br.map PyData.str))), none, none]) (ds := []) (dk0 := dk1) (dk := dk1) rfl rfl rfl e2) (by show 8 < 10; decide)
  obtain ⟨us, dk3, l1, l2, l3⟩ := lcX_dkZ (g := gtName 9) (fe := xCallK fr 0 (xCons (xP (eVar 1)) (xCons (xP (eVar 9)) (xCons (xP (eBin gSub (eVar 3) (eC (.int 1)))) xNil)))) (vs := [9]) PyData.str encT (fun z u => isOf t.wood u z = true ∧ 1 < deep ∧ levT u ≤ deep - 1) (fun dk => [some (dkO dk), some (.d (encWd t.wood)), some (.d (.str k)), some (.d (.int (deep : Nat))), some (.d (rwsD rs)), x5, some (.d (.str row.nm)), some (.d (.tuple (row.br.map PyData.str))), some (.d (.int mk)), none]) row.br (fun z hz dk => by
    have d1 : 1 < deep := by
      by_cases c : deep = 1
      · have := hbare c row (List.mem_of_getElem? hrow)
        rw [this] at hz
        cases hz
      · omega
    obtain ⟨u, dk', ⟨hu, hl⟩, e⟩ := hr d1 z (o3 z hz) dk
    refine ⟨[some (dkO dk), some (.d (encWd t.wood)), some (.d (.str k)), some (.d (.int (deep : Nat))), some (.d (rwsD rs)), x5, some (.d (.str row.nm)), some (.d (.tuple (row.br.map PyData.str))), some (.d (.int mk)), some (.d (.str z))], u, [some (dkO dk'), some (.d (encWd t.wood)), some (.d (.str k)), some (.d (.int (deep : Nat))), some (.d (rwsD rs)), x5, some (.d (.str row.nm)), some (.d (.tuple (row.br.map PyData.str))), some (.d (.int mk)), some (.d (.str z))], dk', rfl, ?_, rfl, hu, d1, hl⟩
    exact xCallK_dk (env1 := [some (dkO dk), some (.d (encWd t.wood)), some (.d (.str k)), some (.d (.int (deep : Nat))), some (.d (rwsD rs)), x5, some (.d (.str row.nm)), some (.d (.tuple (row.br.map PyData.str))), some (.d (.int mk)), some (.d (.str z))]) (ds := [encWd t.wood, .str z, .int ((deep : Int) - 1)]) (dk0 := dk) (dk := dk) rfl rfl rfl e) dk2
  have lc : xLc (eB (eVar 7) itD) (gtName 9) (xCallK fr 0 (xCons (xP (eVar 1)) (xCons (xP (eVar 9)) (xCons (xP (eBin gSub (eVar 3) (eC (.int 1)))) xNil)))) (List.map (·.2) ([("_law_branch", 9)] : List (Str × Nat))) [some (dkO dk2), some (.d (encWd t.wood)), some (.d (.str k)), some (.d (.int (deep : Nat))), some (.d (rwsD rs)), x5, some (.d (.str row.nm)), some (.d (.tuple (row.br.map PyData.str))), some (.d (.int mk)), none] = .ok (.list (us.map encT), [some (dkO dk3), some (.d (encWd t.wood)), some (.d (.str k)), some (.d (.int (deep : Nat))), some (.d (rwsD rs)), x5, some (.d (.str row.nm)), some (.d (.tuple (row.br.map PyData.str))), some (.d (.int mk)), none]) :=
    xLc_of (ds := row.br.map PyData.str) rfl (by rw [List.length_map, sizeLine_eq]; omega) rfl l1
  refine ⟨.mk row.nm mk us, dk3, ⟨?_, ?_⟩, finK_step s0 (finK_step s1 (finK_step s2 (finK_step s3 ?_)))⟩
  · refine isOf_row gd hr0 mk us l2.symm ?_
    rw [isOfs_zip, List.all_eq_true]
    exact fun q hq => (l3 q hq).1
  · rw [levT]
    have : ∀ u ∈ us, 1 < deep ∧ levT u ≤ deep - 1 := fun u hu => by
      obtain ⟨i, hi⟩ := List.getElem?_of_mem hu
      have il := (List.getElem?_eq_some_iff.mp hi).1
      exact (l3 _ (mem_zip (List.getElem?_eq_getElem (show i < row.br.length by omega)) hi)).2
    cases us with
    | nil => rw [levTs]; omega
    | cons a as =>
      have d1 := (this a List.mem_cons_self).1
      have := levTs_of (n := deep - 1) (bs := a :: as) fun u hu => (this u hu).2
      omega
  · rw [encT_mk, ← finK_dk _ dk3 [some (.d (encWd t.wood)), some (.d (.str k)), some (.d (.int (deep : Nat))), some (.d (rwsD rs)), x5, some (.d (.str row.nm)), some (.d (.tuple (row.br.map PyData.str))), some (.d (.int mk)), none]]
    congr 1
    rw [sXRet_eq]
    have gt : gTuple [.list (us.map encT)] = some (.d (.tuple (us.map encT))) := rfl
    have et : xTup (xCons (xP (eVar 6)) (xCons (xP (eVar 8)) (xCons (xCa gTuple (xCons (xLc (eB (eVar 7) itD) (gtName 9) (xCallK fr 0 (xCons (xP (eVar 1)) (xCons (xP (eVar 9)) (xCons (xP (eBin gSub (eVar 3) (eC (.int 1)))) xNil)))) (List.map (·.2) ([("_law_branch", 9)] : List (Str × Nat)))) xNil)) xNil))) [some (dkO dk2), some (.d (encWd t.wood)), some (.d (.str k)), some (.d (.int (deep : Nat))), some (.d (rwsD rs)), x5, some (.d (.str row.nm)), some (.d (.tuple (row.br.map PyData.str))), some (.d (.int mk)), none] = .ok (.tuple [.str row.nm, .int mk, .tuple (us.map encT)], [some (dkO dk3), some (.d (encWd t.wood)), some (.d (.str k)), some (.d (.int (deep : Nat))), some (.d (rwsD rs)), x5, some (.d (.str row.nm)), some (.d (.tuple (row.br.map PyData.str))), some (.d (.int mk)), none]) := by
      simp only [xTup_eq, xCons_eq, xP_eq, eVar_6, eVar_8, xCa_eq, lc, R.bind_ok, xNil_eq, gt, R.of_some, viewD_d]
      rw [guard]
      simp [sizeLine_eq]
    rw [et]
end
end Mir
set_option Elab.async false
set_option linter.all false
set_option maxRecDepth 100000
set_option maxHeartbeats 4000000
noncomputable section
namespace Mir
open PySem PySem.Spec L2
theorem okThaw_of {i : Nat} {dead keep : List Nat} {env env' : Ev} (h : ∀ j x, env'[j]? = some x → okAt i dead keep env (0 + j) x) : okThaw i dead keep env env' := fun j x hx => by have := h j x hx; rwa [Nat.zero_add] at this
theorem okF_nil {i : Nat} {dead keep : List Nat} {env : Ev} {n : Nat} : ∀ j x, ([] : Ev)[j]? = some x → okAt i dead keep env (n + j) x := fun j x h => by simp at h
theorem okF_cons {i : Nat} {dead keep : List Nat} {env : Ev} {n : Nat} {x : Option Ow} {xs : Ev} (h : okAt i dead keep env n x) (t : ∀ j y, xs[j]? = some y → okAt i dead keep env (n + 1 + j) y) : ∀ j y, (x :: xs)[j]? = some y → okAt i dead keep env (n + j) y
  | 0, y, e => by
    rw [List.getElem?_cons_zero] at e
    cases e
    exact h
  | j + 1, y, e => by
    rw [List.getElem?_cons_succ] at e
    have := t j y e
    rwa [show n + (j + 1) = n + 1 + j by omega]
section
variable {i : Nat} {dead keep : List Nat} {env : Ev} {n : Nat}
theorem okI {x : Option Ow} (h : n = i := by decide) : okAt i dead keep env n x := .inl h
theorem okD {x : Option Ow} (h : n ∈ dead := by decide) : okAt i dead keep env n x := .inr (.inl h)
theorem okN : okAt i dead keep env n none := .inr (.inr (.inl rfl))
theorem okC {o : Ow} (h : cleanO o = true) : okAt i dead keep env n (some o) := .inr (.inr (.inr (.inl ⟨o, rfl, h⟩)))
theorem okK {d : D} (h : n ∈ keep := by decide) (e : env[n]? = some (some (.d d)) := by rfl) : okAt i dead keep env n (some (.d d)) := .inr (.inr (.inr (.inr ⟨h, d, rfl, e⟩)))
end
theorem clean_int (z : Int) : cleanO (.d (.int z)) = true := by rw [cleanO, cleanD]
theorem clean_ls {xs : List D} (h : ∀ x ∈ xs, cleanD x = true) : cleanO (.l (xs.map Ow.d)) = true := by
  rw [cleanO, cleanOs_iff]
  intro o ho
  obtain ⟨x, hx, rfl⟩ := List.mem_map.mp ho
  rw [cleanO]
  exact h x hx
theorem clean_lsm {α : Type} {enc : α → D} {xs : List α} (h : ∀ x ∈ xs, cleanD (enc x) = true) : cleanO (.l (xs.map fun x => .d (enc x))) = true := by
  rw [cleanO, cleanOs_iff]
  intro o ho
  obtain ⟨x, hx, rfl⟩ := List.mem_map.mp ho
  rw [cleanO]
  exact h x hx
mutual
theorem clean_encS : ∀ s : Stp, cleanD (encS s) = true
  | .op => by rw [encS_op]; rfl
  | .put nm k ps => by
    rw [encS_put, cleanD, cleanDs_iff]
    intro d hd
    simp only [List.mem_cons, List.not_mem_nil, or_false] at hd
    rcases hd with rfl | rfl | rfl | rfl
    · rw [cleanD]
    · rw [cleanD]
    · rw [cleanD]
    · rw [cleanD]
      rw [← encSs_map]; exact clean_encSs ps
theorem clean_encSs : ∀ ps : List Stp, cleanDs (encSs ps) = true
  | [] => by rw [encSs]; rw [cleanDs]
  | p :: ps => by rw [encSs, cleanDs, clean_encS p, clean_encSs ps]; rfl
end
mutual
theorem clean_encT : ∀ t : Tr, cleanD (encT t) = true
  | .mk nm k bs => by
    rw [encT_mk, cleanD, cleanDs_iff]
    intro d hd
    simp only [List.mem_cons, List.not_mem_nil, or_false] at hd
    rcases hd with rfl | rfl | rfl
    · rw [cleanD]
    · rw [cleanD]
    · rw [cleanD]
      have := clean_encTs bs
      first | exact this | (rw [encTs_map] at this; exact this)
theorem clean_encTs : ∀ bs : List Tr, cleanDs (encTs bs) = true
  | [] => by rw [encTs]; rw [cleanDs]
  | b :: bs => by rw [encTs, cleanDs, clean_encT b, clean_encTs bs]; rfl
end
theorem clean_stO (ss : List Stp) : cleanO (stO ss) = true := clean_lsm fun s _ => clean_encS s
end Mir
end
set_option Elab.async false
set_option linter.all false
set_option maxRecDepth 100000
set_option maxHeartbeats 4000000
namespace Mir
open PySem PySem.Spec L2
noncomputable section
end
end Mir
set_option Elab.async false
set_option linter.all false
set_option maxRecDepth 100000
set_option maxHeartbeats 4000000
namespace Mir
open PySem PySem.Spec L2
noncomputable section
section
variable {t : Trn} {f0 f3 f9 f11 f12 f21 f22 : List D → R Ow} {m : Nat} {p : Str × List Trm} (hm : t.modes[m]? = some p)
include hm
end
end
end Mir
set_option Elab.async false
set_option linter.all false
set_option maxRecDepth 100000
set_option maxHeartbeats 4000000
namespace Mir
open PySem PySem.Spec L2
noncomputable section
end
end Mir
set_option Elab.async false
set_option linter.all false
set_option maxRecDepth 100000
set_option maxHeartbeats 4000000
namespace Mir
open PySem PySem.Spec L2
section
variable {t : Trn} (gd : TnGd t)
include gd
theorem tab_leT' : ∀ d i, leT (tab (mds t) (i + d)) (tab (mds t) i)
  | 0, i => leT_refl _
  | d + 1, i => leT_trans (tab_down (mds t) (mds_ok gd.ok) (i + d)) (tab_leT' d i)
end
end Mir
set_option Elab.async false
set_option linter.all false
set_option maxRecDepth 100000
set_option maxHeartbeats 4000000
namespace Mir
open PySem PySem.Spec L2
section
variable {t : Trn} (gd : TnGd t)
include gd
theorem out_begN' {N : Nat} (h1 : tab (mds t) (N + 1) = tab (mds t) N) {m : Nat} {p : Str × List Trm} (hm : t.modes[m]? = some p) {u : Tr} (hu : isOf t.wood u p.1 = true) : beg ((tab (mds t) N).getD m .op) (outT t m u) = true := by
  have lp : 1 ≤ levT u := by obtain ⟨nm, mk, bs⟩ := u; rw [levT]; omega
  have b := out_beg gd (levT u - 1) m p u hm hu (by omega)
  by_cases c : N ≤ levT u - 1
  · have := tab_stay h1 (levT u - 1 - N)
    rw [show N + (levT u - 1 - N) = levT u - 1 from by omega] at this
    rw [← this]
    exact b
  · have := tab_leT' gd (N - (levT u - 1)) (levT u - 1)
    rw [show levT u - 1 + (N - (levT u - 1)) = N from by omega] at this
    exact beg_leS (leT_at this m) b
end
noncomputable section
end
end Mir
set_option Elab.async false
set_option linter.all false
set_option maxRecDepth 100000
set_option maxHeartbeats 4000000
namespace G
open PySem PySem.Spec L2 Mir
def top (i : Nat) : Stmt := PySem.Challenge.pw_turnery_k33_outcomes_begin_so.main.body.getD i (.Pass ⟨0, 0, 0, 0⟩)
abbrev s_met : Stmt := top 1
abbrev s_rows_of : Stmt := top 3
abbrev s_stump_in : Stmt := top 5
abbrev s_met_of : Stmt := top 6
abbrev s_first_commons : Stmt := top 7
abbrev s_next_commons : Stmt := top 8
abbrev s_by_levels : Stmt := top 9
abbrev s_commons_within : Stmt := top 10
abbrev s_commons : Stmt := top 11
abbrev s__law_numbers : Stmt := top 13
abbrev s__law_draw : Stmt := top 14
abbrev s__law_mark : Stmt := top 15
abbrev s__law_name : Stmt := top 16
abbrev s__law_wood : Stmt := top 17
abbrev s__law_rows : Stmt := top 18
abbrev s__law_term : Stmt := top 19
abbrev s__law_changed : Stmt := top 20
abbrev s__law_calls : Stmt := top 21
abbrev s__law_rule : Stmt := top 22
abbrev s__law_turning : Stmt := top 23
abbrev s__law_bare : Stmt := top 24
abbrev s__law_copy : Stmt := top 25
abbrev s__law_whole : Stmt := top 26
abbrev s__law_is_stump : Stmt := top 27
abbrev s__law_rule_of : Stmt := top 28
abbrev s__law_made : Stmt := top 29
abbrev s__law_made_by : Stmt := top 30
abbrev s__law_tree : Stmt := top 31
abbrev s__law_begins : Stmt := top 32
abbrev s__law_stumps : Stmt := top 33
abbrev s_law : Stmt := top 34
/-- met: 0 one, 1 other, 2 a, 3 b -/
noncomputable def b_met (m : Nat → List PyData → R Ow) : Ev → SR :=
    (sSeq (sIf (tOrE (eB (eBin gEq (eBin gIx (eVar 0) (eC (.int 0))) (eC (.str "open"))) asB) (eB (eBin gEq (eBin gIx (eVar 1) (eC (.int 0))) (eC (.str "open"))) asB))
    (sRet (eM (eTup (aCons (eC (.str "open")) aNil)) Ow.d))
    sSkip)
    (sSeq (sIf (tOrE (eB (eBin gNe (eBin gIx (eVar 0) (eC (.int 1))) (eBin gIx (eVar 1) (eC (.int 1)))) asB) (tOrE (eB (eBin gNe (eBin gIx (eVar 0) (eC (.int 2))) (eBin gIx (eVar 1) (eC (.int 2)))) asB) (eB (eBin gNe (eM (eCa gLen (aCons (eBin gIx (eVar 0) (eC (.int 3))) aNil)) viewD) (eM (eCa gLen (aCons (eBin gIx (eVar 1) (eC (.int 3))) aNil)) viewD)) asB)))
    (sRet (eM (eTup (aCons (eC (.str "open")) aNil)) Ow.d))
    sSkip)
    (sRet (eM (eTup (aCons (eC (.str "put")) (aCons (eBin gIx (eVar 0) (eC (.int 1))) (aCons (eBin gIx (eVar 0) (eC (.int 2))) (aCons (eM (eCa gTuple (aCons (eB (eLc (eB (aCons (eBin gIx (eVar 0) (eC (.int 3))) (aCons (eBin gIx (eVar 1) (eC (.int 3))) aNil)) zpArg) (gtTup 2 (gtCons (gtName 2) (gtCons (gtName 3) gtNil))) cYes (eB (aCons (eVar 2) (aCons (eVar 3) aNil)) (m 0)) (List.map (·.2) ([("a", 2), ("b", 3)] : List (Str × Nat)))) shD) aNil)) viewD) aNil))))) Ow.d))))
/-- rows_of: 0 wood, 1 kind, 2 told, 3 rows -/
noncomputable def b_rows_of (m : Nat → List PyData → R Ow) : Ev → SR :=
    (sSeq (sFor (eB (eVar 0) itD) (gtTup 2 (gtCons (gtName 2) (gtCons (gtName 3) gtNil)))
    (sIf (eB (eBin gEq (eVar 2) (eVar 1)) asB)
    (sRet (eM (eVar 3) Ow.d))
    sSkip))
    (sRet (eLst aNil)))
/-- stump_in: 0 term, 1 stumps, 2 part -/
noncomputable def b_stump_in (m : Nat → List PyData → R Ow) : Ev → SR :=
    (sSeq (sIf (eB (eBin gEq (eBin gIx (eVar 0) (eC (.int 0))) (eC (.str "call"))) asB)
    (sRet (eM (eBin gIx (eVar 1) (eBin gIx (eVar 0) (eC (.int 1)))) Ow.d))
    sSkip)
    (sSeq (sIf (eB (eBin gIx (eVar 0) (eC (.int 2))) asB)
    (sRet (eM (eTup (aCons (eC (.str "open")) aNil)) Ow.d))
    sSkip)
    (sRet (eM (eTup (aCons (eC (.str "put")) (aCons (eBin gIx (eVar 0) (eC (.int 1))) (aCons (eBin gIx (eVar 0) (eC (.int 3))) (aCons (eM (eCa gTuple (aCons (eB (eLc (eB (eBin gIx (eVar 0) (eC (.int 4))) itD) (gtName 2) cYes (eB (aCons (eVar 2) (aCons (eVar 1) aNil)) (m 2)) (List.map (·.2) ([("part", 2)] : List (Str × Nat)))) shD) aNil)) viewD) aNil))))) Ow.d))))
/-- met_of: 0 stumps, 1 found, 2 stump -/
noncomputable def b_met_of (m : Nat → List PyData → R Ow) : Ev → SR :=
    (sSeq (sSet 1 (eM (eBin gIx (eVar 0) (eC (.int 0))) Ow.d))
    (sSeq (sFor (eB (eM (eSl (eVar 0) (eB (eC (.int 1)) asI) oNone) viewD) itD) (gtName 2)
    (sSet 1 (eM (eM (eB (aCons (eVar 1) (aCons (eVar 2) aNil)) (m 0)) viewD) Ow.d)))
    (sRet (eM (eVar 1) Ow.d))))
/-- first_commons: 0 turning, 1 found, 2 kind, 3 rules, 4 bare, 5 row, 6 rule -/
noncomputable def b_first_commons (m : Nat → List PyData → R Ow) : Ev → SR :=
    (sSeq (sSet 1 (eLst aNil))
    (sSeq (sFor (eB (eBin gIx (eVar 0) (eC (.int 2))) itD) (gtTup 2 (gtCons (gtName 2) (gtCons (gtName 3) gtNil)))
    (sSeq (sSet 4 (eLst aNil))
    (sSeq (sFor (eB (aCons (eM (eB (aCons (eBin gIx (eVar 0) (eC (.int 0))) (aCons (eVar 2) aNil)) (m 1)) viewD) (aCons (eVar 3) aNil)) zpArg) (gtTup 2 (gtCons (gtName 5) (gtCons (gtName 6) gtNil)))
    (sIf (eB (eBin gEq (eBin gIx (eVar 5) (eC (.int 1))) (eTup aNil)) asB)
    (sApp 4 (eB (aCons (eVar 6) (aCons (eM (eLst aNil) viewD) aNil)) (m 2)))
    sSkip))
    (sFrz 4 (sApp 1 (eB (aCons (eVar 4) aNil) (m 3)))))))
    (sRetV 1)))
/-- next_commons: 0 turning, 1 stumps, 2 found, 3 mode, 4 rule -/
noncomputable def b_next_commons (m : Nat → List PyData → R Ow) : Ev → SR :=
    (sSeq (sSet 2 (eLst aNil))
    (sSeq (sFor (eB (eBin gIx (eVar 0) (eC (.int 2))) itD) (gtName 3)
    (sApp 2 (eB (aCons (eM (eLc (eB (eBin gIx (eVar 3) (eC (.int 1))) itD) (gtName 4) cYes (eB (aCons (eVar 4) (aCons (eVar 1) aNil)) (m 2)) (List.map (·.2) ([("rule", 4)] : List (Str × Nat)))) viewD) aNil) (m 3))))
    (sRetV 2)))
/-- by_levels: 0 turning, 1 most, 2 tables, 3 further -/
noncomputable def b_by_levels (m : Nat → List PyData → R Ow) : Ev → SR :=
    (sSeq (sSet 2 (eLst (aCons (eM (eB (aCons (eVar 0) aNil) (m 4)) viewD) aNil)))
    (sSeq (whileN (eB (eBin gLt (eM (eCa gLen (aCons (eB (eVarO 2) shD) aNil)) viewD) (eVar 1)) asB)
    (sSeq (sSet 3 (eM (eM (eB (aCons (eVar 0) (aCons (eBin gIx (eB (eVarO 2) shD) (eB (eC (.int 1)) gNeg)) aNil)) (m 5)) viewD) Ow.d))
    (sSeq (sIf (eB (eBin gEq (eVar 3) (eBin gIx (eB (eVarO 2) shD) (eB (eC (.int 1)) gNeg))) asB)
    (sRetV 2)
    sSkip)
    (sApp 2 (eM (eVar 3) Ow.d)))) 1000000)
    (sRetV 2)))
/-- commons_within: 0 turning, 1 many -/
noncomputable def b_commons_within (m : Nat → List PyData → R Ow) : Ev → SR :=
    (sRet (eCa gList (aCons (eBin gIx (eB (eB (aCons (eVar 0) (aCons (eVar 1) aNil)) (m 6)) shD) (eB (eC (.int 1)) gNeg)) aNil)))
/-- commons: 0 turning, 1 found, 2 further -/
noncomputable def b_commons (m : Nat → List PyData → R Ow) : Ev → SR :=
    (sSeq (sSet 1 (eB (aCons (eVar 0) aNil) (m 4)))
    (sSeq (sThaw 1 [] [0] (sSet 2 (eB (aCons (eVar 0) (aCons (eVar 1) aNil)) (m 5))))
    (sSeq (whileN (eB (eBin gNe (eM (eVarO 2) viewD) (eM (eVarO 1) viewD)) asB)
    (sSeq (sMove 1 2)
    (sThaw 1 [] [0] (sSet 2 (eB (aCons (eVar 0) (aCons (eVar 1) aNil)) (m 5))))) 1000000)
    (sRetV 1))))
/-- _law_numbers: 0 _law_script, 1 _law_most, 2 _law_found, 3 _law_cell, 4 _law_number -/
noncomputable def b__law_numbers (m : Nat → List PyData → R Ow) : Ev → SR :=
    (sSeq (sSet 2 (eLc (eB (eM (eSl (eVar 0) oNone (eB (eVar 1) asI)) viewD) itD) (gtName 3) cYes (eM (eBin gMod (eVar 3) (eBin gPow (eC (.int 10)) (eC (.int 59)))) Ow.d) (List.map (·.2) ([("_law_cell", 3)] : List (Str × Nat)))))
    (sSeq (sSet 4 (eM (eM (eBinO gAdd (eC (.int 48271)) (eBin gMod (eM (eCa gSum (aCons (eB (eVarO 2) shD) aNil)) viewD) (eC (.int 2147483647)))) viewD) Ow.d))
    (sSeq (whileN (eB (eBin gLt (eM (eCa gLen (aCons (eB (eVarO 2) shD) aNil)) viewD) (eVar 1)) asB)
    (sSeq (sSet 4 (eM (eBin gMod (eM (eBinO gAdd (eB (eBinO gAdd (eBin gMul (eVar 4) (eVar 4)) (eBin gMul (eC (.int 48271)) (eVar 4))) shD) (eB (eCa gLen (aCons (eB (eVarO 2) shD) aNil)) shD)) viewD) (eC (.int 2147483647))) Ow.d))
    (sApp 2 (eM (eVar 4) Ow.d))) 1000000)
    (sRet (eListRev (eB (eVarO 2) shD))))))
/-- _law_draw: 0 _law_deck, 1 _law_most -/
noncomputable def b__law_draw (m : Nat → List PyData → R Ow) : Ev → SR :=
    (sSeq (sIf (eB (eBin gEq (eM (eVarO 0) viewD) (eM (eLst aNil) viewD)) asB)
    (sRet (eM (eC (.int 0)) Ow.d))
    sSkip)
    (sXRet (xBin gMod (xPop 0) (xP (eVar 1)))))
/-- _law_mark: 0 _law_deck, 1 _law_number -/
noncomputable def b__law_mark (m : Nat → List PyData → R Ow) : Ev → SR :=
    (sSeq (sXSet 1 (xCallK (m 10) 0 (xCons (xP (eBin gPow (eC (.int 10)) (eC (.int 59)))) xNil)))
    (sSeq (sIf (eB (eBin gEq (eBin gMod (eVar 1) (eC (.int 4))) (eC (.int 3))) asB)
    (sRet (eM (eBin gSub (eBin gMod (eBin gDiv (eVar 1) (eC (.int 4))) (eM (eBinO gAdd (eBin gMul (eC (.int 2)) (eBin gPow (eC (.int 10)) (eC (.int 57)))) (eC (.int 1))) viewD)) (eBin gPow (eC (.int 10)) (eC (.int 57)))) Ow.d))
    sSkip)
    (sRet (eM (eBin gDiv (eBin gMod (eBin gDiv (eVar 1) (eC (.int 4))) (eC (.int 3))) (eC (.int 2))) Ow.d))))
/-- _law_name: 0 _law_code, 1 _law_k, 2 _law_letters, 3 _law_first, 4 _law_long, 5 _law_told, 6 _law_name_here, 7 _law_j, 8 _law_step -/
noncomputable def b__law_name (m : Nat → List PyData → R Ow) : Ev → SR :=
    (sSeq (sSet 2 (eM (eC (.str "abcdefghijklmnopqrstuvwxyz")) Ow.d))
    (sSeq (sSet 3 (eM (eBin gMod (eBin gDiv (eVar 0) (eC (.int 64))) (eC (.int 26))) Ow.d))
    (sSeq (sIf (eB (eBin gEq (eBin gMod (eBin gDiv (eVar 0) (eC (.int 1664))) (eC (.int 3))) (eC (.int 2))) asB)
    (sRet (eM (eBin gMulS (eBin gIx (eVar 2) (eBin gMod (eM (eBinO gAdd (eVar 3) (eBin gDiv (eVar 1) (eC (.int 8)))) viewD) (eC (.int 26)))) (eM (eBinO gAdd (eC (.int 1)) (eBin gMod (eVar 1) (eC (.int 8)))) viewD)) Ow.d))
    sSkip)
    (sSeq (sSet 4 (eM (eM (eBinO gAdd (eC (.int 1)) (eBin gMod (eVar 0) (eC (.int 8)))) viewD) Ow.d))
    (sSeq (sSet 5 (eM (eBin gMod (eBin gDiv (eVar 0) (eC (.int 8))) (eVar 4)) Ow.d))
    (sSeq (sSet 6 (eM (eC (.str "")) Ow.d))
    (sSeq (sFor (eB (aCons (eVar 4) aNil) rg1) (gtName 7)
    (sSeq (sSet 8 (eM (eBin gMul (eBin gMod (eBin gDiv (eVar 0) (eC (.int 1664))) (eC (.int 3))) (eVar 7)) Ow.d))
    (sSeq (sIf (eB (eBin gEq (eVar 7) (eVar 5)) asB)
    (sSet 8 (eM (eM (eBinO gAdd (eVar 8) (eVar 1)) viewD) Ow.d))
    sSkip)
    (sSet 6 (eM (eM (eBinO gAdd (eVar 6) (eBin gIx (eVar 2) (eBin gMod (eM (eBinO gAdd (eVar 3) (eVar 8)) viewD) (eC (.int 26))))) viewD) Ow.d)))))
    (sRet (eM (eVar 6) Ow.d)))))))))
/-- _law_wood: 0 _law_deck, 1 _law_code, 2 _law_count, 3 _law_apart, 4 _law_wood_here, 5 _law_k, 6 _law_rows_here, 7 _law_j, 8 _law_branches, 9 _law_i -/
noncomputable def b__law_wood (m : Nat → List PyData → R Ow) : Ev → SR :=
    (sSeq (sXSet 2 (xBin (gI0 fun i j => i + j) (xP (eC (.int 1))) (xCallK (m 10) 0 (xCons (xP (eC (.int 3))) xNil))))
    (sSeq (sXSet 3 (xBin gMul (xCallK (m 10) 0 (xCons (xP (eC (.int 2))) xNil)) (xP (eC (.int 3)))))
    (sSeq (sSet 4 (eLst aNil))
    (sSeq (sFor (eB (aCons (eVar 2) aNil) rg1) (gtName 5)
    (sSeq (sSet 6 (eLst (aCons (eTup (aCons (eM (eB (aCons (eVar 1) (aCons (eM (eBinO gAdd (eC (.int 3)) (eBin gMul (eVar 3) (eVar 5))) viewD) aNil)) (m 12)) viewD) (aCons (eTup aNil) aNil))) aNil)))
    (sSeq (sXFor (xRg1 (xCons (xCallK (m 10) 0 (xCons (xP (eC (.int 3))) xNil)) xNil)) (gtName 7)
    (sSeq (sXSet 8 (xLc2 (xRg1 (xCons (xCallK (m 10) 0 (xCons (xP (eC (.int 5))) xNil)) xNil)) (gtName 9) (xCall (m 12) (xCons (xP (eVar 1)) (xCons (xCallK (m 10) 0 (xCons (xP (eVar 2)) xNil)) xNil))) (List.map (·.2) ([("_law_i", 9)] : List (Str × Nat)))))
    (sApp 6 (eM (eTup (aCons (eM (eB (aCons (eVar 1) (aCons (eM (eBinO gAdd (eB (eBinO gAdd (eC (.int 4)) (eVar 7)) shD) (eBin gMul (eVar 3) (eVar 5))) viewD) aNil)) (m 12)) viewD) (aCons (eM (eCa gTuple (aCons (eVar 8) aNil)) viewD) aNil))) Ow.d))))
    (sApp 4 (eM (eTup (aCons (eM (eB (aCons (eVar 1) (aCons (eVar 5) aNil)) (m 12)) viewD) (aCons (eM (eCa gSorted (aCons (eB (eVarO 6) shD) aNil)) viewD) aNil))) Ow.d)))))
    (sFrz 4 (sRet (eM (eVar 4) Ow.d)))))))
/-- _law_rows: 0 _law_wood_here, 1 _law_kind, 2 _law_told, 3 _law_rows_here -/
noncomputable def b__law_rows (m : Nat → List PyData → R Ow) : Ev → SR :=
    (sRet (eM (eBin gIx (eB (eLc (eB (eVar 0) itD) (gtTup 2 (gtCons (gtName 2) (gtCons (gtName 3) gtNil))) (eB (eBin gEq (eVar 2) (eVar 1)) asB) (eM (eVar 3) Ow.d) (List.map (·.2) ([("_law_told", 2), ("_law_rows_here", 3)] : List (Str × Nat)))) shD) (eC (.int 0))) Ow.d))
/-- _law_term: 0 _law_deck, 1 _law_code, 2 _law_calls_here, 3 _law_deep, 4 _law_pick, 5 _law_parts, 6 _law_count, 7 _law_k, 8 _law_name_here -/
noncomputable def b__law_term (m : Nat → List PyData → R Ow) : Ev → SR :=
    (sSeq (sXSet 4 (xCallK (m 10) 0 (xCons (xP (eC (.int 8))) xNil)))
    (sSeq (sIf (tAndE (eB (eBin gGt (eVar 4) (eC (.int 4))) asB) (eB (eBin gNe (eVar 2) (eM (eLst aNil) viewD)) asB))
    (sXRet (xBinO gAdd (xP (eTup (aCons (eC (.str "call")) aNil))) (xBin gIx (xP (eVar 2)) (xCallK (m 10) 0 (xCons (xP (eM (eCa gLen (aCons (eVar 2) aNil)) viewD)) xNil)))))
    sSkip)
    (sSeq (sSet 5 (eLst aNil))
    (sSeq (sIf (eB (eBin gGt (eVar 3) (eC (.int 0))) asB)
    (sSeq (sXSet 6 (xCallK (m 10) 0 (xCons (xP (eC (.int 4))) xNil)))
    (sFor (eB (aCons (eVar 6) aNil) rg1) (gtName 7)
    (sXApp 5 (xCallK (m 15) 0 (xCons (xP (eVar 1)) (xCons (xP (eVar 2)) (xCons (xP (eBin gSub (eBin gSub (eVar 3) (eC (.int 1))) (eBin gDiv (eVar 6) (eC (.int 3))))) xNil)))))))
    sSkip)
    (sSeq (sXSet 8 (xCall (m 12) (xCons (xP (eVar 1)) (xCons (xBin (gI0 fun i j => i + j) (xP (eC (.int 3))) (xCallK (m 10) 0 (xCons (xP (eC (.int 3))) xNil))) xNil))))
    (sXRet (xTup (xCons (xP (eC (.str "put"))) (xCons (xP (eVar 8)) (xCons (xP (eBin gEq (eVar 4) (eC (.int 0)))) (xCons (xCallK (m 11) 0 xNil) (xCons (xP (eM (eCa gTuple (aCons (eB (eVarO 5) shD) aNil)) viewD)) xNil))))))))))))
/-- _law_changed: 0 _law_deck, 1 _law_code, 2 _law_term_here, 3 _law_calls_here, 4 _law_pick, 5 _law_name_here, 6 _law_parts, 7 _law_part -/
noncomputable def b__law_changed (m : Nat → List PyData → R Ow) : Ev → SR :=
    (sSeq (sXSet 4 (xCallK (m 10) 0 (xCons (xP (eC (.int 7))) xNil)))
    (sSeq (sIf (tAndE (eB (eBin gEq (eVar 4) (eC (.int 0))) asB) (eB (eBin gNe (eVar 3) (eM (eLst aNil) viewD)) asB))
    (sXRet (xBinO gAdd (xP (eTup (aCons (eC (.str "call")) aNil))) (xBin gIx (xP (eVar 3)) (xCallK (m 10) 0 (xCons (xP (eM (eCa gLen (aCons (eVar 3) aNil)) viewD)) xNil)))))
    sSkip)
    (sSeq (sIf (eB (eBin gEq (eVar 4) (eC (.int 1))) asB)
    (sSeq (sXSet 5 (xCall (m 12) (xCons (xP (eVar 1)) (xCons (xBin (gI0 fun i j => i + j) (xP (eC (.int 3))) (xCallK (m 10) 0 (xCons (xP (eC (.int 3))) xNil))) xNil))))
    (sXRet (xTup (xCons (xP (eC (.str "put"))) (xCons (xP (eVar 5)) (xCons (xP (eC (.bool false))) (xCons (xCallK (m 11) 0 xNil) (xCons (xP (eTup aNil)) xNil))))))))
    sSkip)
    (sSeq (sXSet 6 (xLc (eB (eBin gIx (eVar 2) (eC (.int 4))) itD) (gtName 7) (xCallK (m 16) 0 (xCons (xP (eVar 1)) (xCons (xP (eVar 7)) (xCons (xP (eVar 3)) xNil)))) (List.map (·.2) ([("_law_part", 7)] : List (Str × Nat)))))
    (sRet (eM (eTup (aCons (eC (.str "put")) (aCons (eBin gIx (eVar 2) (eC (.int 1))) (aCons (eAnd (eBin gIx (eVar 2) (eC (.int 2))) (eBin gLt (eVar 4) (eC (.int 5)))) (aCons (eBin gIx (eVar 2) (eC (.int 3))) (aCons (eM (eCa gTuple (aCons (eVar 6) aNil)) viewD) aNil)))))) Ow.d))))))
/-- _law_calls: 0 _law_kinds, 1 _law_branches, 2 _law_found, 3 _law_k, 4 _law_j -/
noncomputable def b__law_calls (m : Nat → List PyData → R Ow) : Ev → SR :=
    (sSeq (sSet 2 (eLst aNil))
    (sSeq (sFor (eB (aCons (eM (eCa gLen (aCons (eVar 0) aNil)) viewD) aNil) rg1) (gtName 3)
    (sFor (eB (aCons (eM (eCa gLen (aCons (eVar 1) aNil)) viewD) aNil) rg1) (gtName 4)
    (sIf (eB (eBin gEq (eBin gIx (eVar 0) (eVar 3)) (eBin gIx (eVar 1) (eVar 4))) asB)
    (sApp 2 (eM (eTup (aCons (eVar 3) (aCons (eVar 4) aNil))) Ow.d))
    sSkip)))
    (sRetV 2)))
/-- _law_rule: 0 _law_deck, 1 _law_code, 2 _law_base, 3 _law_calls_here, 4 _law_way -/
noncomputable def b__law_rule (m : Nat → List PyData → R Ow) : Ev → SR :=
    (sSeq (sXSet 4 (xCallK (m 10) 0 (xCons (xP (eC (.int 3))) xNil)))
    (sSeq (sIf (eB (eBin gEq (eVar 4) (eC (.int 0))) asB)
    (sRet (eM (eVar 2) Ow.d))
    sSkip)
    (sSeq (sIf (eB (eBin gEq (eVar 4) (eC (.int 1))) asB)
    (sXRet (xCallK (m 16) 0 (xCons (xP (eVar 1)) (xCons (xP (eVar 2)) (xCons (xP (eVar 3)) xNil)))))
    sSkip)
    (sXRet (xCallK (m 15) 0 (xCons (xP (eVar 1)) (xCons (xP (eVar 3)) (xCons (xP (eC (.int 2))) xNil))))))))
/-- _law_turning: 0 _law_deck, 1 _law_code, 2 _law_wood_here, 3 _law_kinds, 4 _law_k, 5 _law_modes, 6 _law_kind, 7 _law_base, 8 _law_rules, 9 _law_name_here, 10 _law_branches, 11 _law_start -/
noncomputable def b__law_turning (m : Nat → List PyData → R Ow) : Ev → SR :=
    (sSeq (sSet 3 (eLst (aCons (eBin gIx (eBin gIx (eVar 2) (eC (.int 0))) (eC (.int 0))) aNil)))
    (sSeq (sXFor (xRg1 (xCons (xCallK (m 10) 0 (xCons (xP (eC (.int 4))) xNil)) xNil)) (gtName 4)
    (sXApp 3 (xBin gIx (xBin gIx (xP (eVar 2)) (xCallK (m 10) 0 (xCons (xP (eM (eCa gLen (aCons (eVar 2) aNil)) viewD)) xNil))) (xP (eC (.int 0))))))
    (sSeq (sSet 5 (eLst aNil))
    (sSeq (sFrz 3 (sFor (eB (eVar 3) itD) (gtName 6)
    (sSeq (sXSet 7 (xCallK (m 15) 0 (xCons (xP (eVar 1)) (xCons (xP (eM (eLst aNil) viewD)) (xCons (xP (eC (.int 2))) xNil)))))
    (sSeq (sSet 8 (eLst aNil))
    (sSeq (sFor (eB (eM (eB (aCons (eVar 2) (aCons (eVar 6) aNil)) (m 14)) viewD) itD) (gtTup 2 (gtCons (gtName 9) (gtCons (gtName 10) gtNil)))
    (sFrz 3 (sXApp 8 (xCallK (m 18) 0 (xCons (xP (eVar 1)) (xCons (xP (eVar 7)) (xCons (xP (eM (eB (aCons (eVar 3) (aCons (eVar 10) aNil)) (m 17)) viewD)) xNil)))))))
    (sFrz 8 (sApp 5 (eM (eTup (aCons (eVar 6) (aCons (eVar 8) aNil))) Ow.d))))))))
    (sSeq (sFrz 3 (sXSet 11 (xCallK (m 15) 0 (xCons (xP (eVar 1)) (xCons (xP (eM (eB (aCons (eVar 3) (aCons (eM (eLst (aCons (eBin gIx (eBin gIx (eVar 2) (eC (.int 0))) (eC (.int 0))) aNil)) viewD) aNil)) (m 17)) viewD)) (xCons (xP (eC (.int 1))) xNil))))))
    (sFrz 5 (sRet (eM (eTup (aCons (eVar 2) (aCons (eM (eB (aCons (eVar 11) aNil) (m 20)) viewD) (aCons (eVar 5) aNil)))) Ow.d))))))))
/-- _law_bare: 0 _law_term_here, 1 _law_part -/
noncomputable def b__law_bare (m : Nat → List PyData → R Ow) : Ev → SR :=
    (sSeq (sIf (eB (eBin gEq (eBin gIx (eVar 0) (eC (.int 0))) (eC (.str "call"))) asB)
    (sRet (eM (eVar 0) Ow.d))
    sSkip)
    (sRet (eM (eTup (aCons (eC (.str "put")) (aCons (eBin gIx (eVar 0) (eC (.int 1))) (aCons (eC (.bool false)) (aCons (eBin gIx (eVar 0) (eC (.int 3))) (aCons (eM (eCa gTuple (aCons (eB (eLc (eB (eBin gIx (eVar 0) (eC (.int 4))) itD) (gtName 1) cYes (eB (aCons (eVar 1) aNil) (m 20)) (List.map (·.2) ([("_law_part", 1)] : List (Str × Nat)))) shD) aNil)) viewD) aNil)))))) Ow.d)))
/-- _law_copy: 0 _law_turning_here, 1 _law_wood_here, 2 _law_kind, 3 _law_rows_here, 4 _law_rules -/
noncomputable def b__law_copy (m : Nat → List PyData → R Ow) : Ev → SR :=
    (sSeq (sSet 1 (eM (eM (eLc (eB (eBin gIx (eVar 0) (eC (.int 0))) itD) (gtTup 2 (gtCons (gtName 2) (gtCons (gtName 3) gtNil))) cYes (eM (eTup (aCons (eVar 2) (aCons (eM (eCa gList (aCons (eVar 3) aNil)) viewD) aNil))) Ow.d) (List.map (·.2) ([("_law_kind", 2), ("_law_rows_here", 3)] : List (Str × Nat)))) viewD) Ow.d))
    (sRet (eM (eTup (aCons (eVar 1) (aCons (eBin gIx (eVar 0) (eC (.int 1))) (aCons (eM (eLc (eB (eBin gIx (eVar 0) (eC (.int 2))) itD) (gtTup 2 (gtCons (gtName 2) (gtCons (gtName 4) gtNil))) cYes (eM (eTup (aCons (eVar 2) (aCons (eM (eCa gList (aCons (eVar 4) aNil)) viewD) aNil))) Ow.d) (List.map (·.2) ([("_law_kind", 2), ("_law_rules", 4)] : List (Str × Nat)))) viewD) aNil)))) Ow.d)))
/-- _law_whole: 0 _law_found -/
noncomputable def b__law_whole (m : Nat → List PyData → R Ow) : Ev → SR :=
    (sRet (eM (eAnd (eB (eVar 0) (gIsi "int")) (eNot (eB (eVar 0) (gIsi "bool")))) Ow.d))
/-- _law_is_stump: 0 _law_found, 1 _law_part -/
noncomputable def b__law_is_stump (m : Nat → List PyData → R Ow) : Ev → SR :=
    (sSeq (sIf (tOrE (tNotE (eB (eB (eVar 0) (gIsi "tuple")) asB)) (eB (eBin gEq (eM (eCa gLen (aCons (eVar 0) aNil)) viewD) (eC (.int 0))) asB))
    (sRet (eM (eC (.bool false)) Ow.d))
    sSkip)
    (sSeq (sIf (eB (eBin gEq (eVar 0) (eTup (aCons (eC (.str "open")) aNil))) asB)
    (sRet (eM (eC (.bool true)) Ow.d))
    sSkip)
    (sSeq (sIf (tOrE (eB (eBin gNe (eM (eCa gLen (aCons (eVar 0) aNil)) viewD) (eC (.int 4))) asB) (tOrE (eB (eBin gNe (eBin gIx (eVar 0) (eC (.int 0))) (eC (.str "put"))) asB) (tOrE (tNotE (eB (eB (eBin gIx (eVar 0) (eC (.int 1))) (gIsi "str")) asB)) (tNotE (eB (eM (eB (aCons (eBin gIx (eVar 0) (eC (.int 2))) aNil) (m 22)) viewD) asB)))))
    (sRet (eM (eC (.bool false)) Ow.d))
    sSkip)
    (sSeq (sIf (tNotE (eB (eB (eBin gIx (eVar 0) (eC (.int 3))) (gIsi "tuple")) asB))
    (sRet (eM (eC (.bool false)) Ow.d))
    sSkip)
    (sSeq (sFor (eB (eBin gIx (eVar 0) (eC (.int 3))) itD) (gtName 1)
    (sIf (tNotE (eB (eM (eB (aCons (eVar 1) aNil) (m 23)) viewD) asB))
    (sRet (eM (eC (.bool false)) Ow.d))
    sSkip))
    (sRet (eM (eC (.bool true)) Ow.d)))))))
/-- _law_rule_of: 0 _law_turning_here, 1 _law_mode, 2 _law_name_here, 3 _law_kind, 4 _law_rules, 5 _law_row, 6 _law_rule_here -/
noncomputable def b__law_rule_of (m : Nat → List PyData → R Ow) : Ev → SR :=
    (sSeq (sAsg (gtTup 2 (gtCons (gtName 3) (gtCons (gtName 4) gtNil))) (eBin gIx (eBin gIx (eVar 0) (eC (.int 2))) (eVar 1)))
    (sRet (eM (eBin gIx (eB (eLc (eB (aCons (eM (eB (aCons (eBin gIx (eVar 0) (eC (.int 0))) (aCons (eVar 3) aNil)) (m 14)) viewD) (aCons (eVar 4) aNil)) zpArg) (gtTup 2 (gtCons (gtName 5) (gtCons (gtName 6) gtNil))) (eB (eBin gEq (eBin gIx (eVar 5) (eC (.int 0))) (eVar 2)) asB) (eM (eVar 6) Ow.d) (List.map (·.2) ([("_law_row", 5), ("_law_rule_here", 6)] : List (Str × Nat)))) shD) (eC (.int 0))) Ow.d)))
/-- _law_made: 0 _law_turning_here, 1 _law_mode, 2 _law_tree_here -/
noncomputable def b__law_made (m : Nat → List PyData → R Ow) : Ev → SR :=
    (sRet (eB (aCons (eVar 0) (aCons (eM (eB (aCons (eVar 0) (aCons (eVar 1) (aCons (eBin gIx (eVar 2) (eC (.int 0))) aNil))) (m 24)) viewD) (aCons (eVar 2) aNil))) (m 26)))
/-- _law_made_by: 0 _law_turning_here, 1 _law_term_here, 2 _law_tree_here, 3 _law_parts, 4 _law_part -/
noncomputable def b__law_made_by (m : Nat → List PyData → R Ow) : Ev → SR :=
    (sSeq (sIf (eB (eBin gEq (eBin gIx (eVar 1) (eC (.int 0))) (eC (.str "call"))) asB)
    (sRet (eB (aCons (eVar 0) (aCons (eBin gIx (eVar 1) (eC (.int 1))) (aCons (eBin gIx (eBin gIx (eVar 2) (eC (.int 2))) (eBin gIx (eVar 1) (eC (.int 2)))) aNil))) (m 25)))
    sSkip)
    (sSeq (sSet 3 (eM (eM (eLc (eB (eBin gIx (eVar 1) (eC (.int 4))) itD) (gtName 4) cYes (eB (aCons (eVar 0) (aCons (eVar 4) (aCons (eVar 2) aNil))) (m 26)) (List.map (·.2) ([("_law_part", 4)] : List (Str × Nat)))) viewD) Ow.d))
    (sRet (eM (eTup (aCons (eBin gIx (eVar 1) (eC (.int 1))) (aCons (eM (eBinO gAdd (eBin gIx (eVar 1) (eC (.int 3))) (eBin gMul (eBin gIx (eVar 2) (eC (.int 1))) (eM (eCa gInt (aCons (eBin gIx (eVar 1) (eC (.int 2))) aNil)) viewD))) viewD) (aCons (eM (eCa gTuple (aCons (eVar 3) aNil)) viewD) aNil)))) Ow.d))))
/-- _law_tree: 0 _law_deck, 1 _law_wood_here, 2 _law_kind, 3 _law_deep, 4 _law_rows_here, 5 _law_row, 6 _law_name_here, 7 _law_branches, 8 _law_mark_here, 9 _law_branch -/
noncomputable def b__law_tree (m : Nat → List PyData → R Ow) : Ev → SR :=
    (sSeq (sSet 4 (eM (eM (eB (aCons (eVar 1) (aCons (eVar 2) aNil)) (m 14)) viewD) Ow.d))
    (sSeq (sIf (eB (eBin gEq (eVar 3) (eC (.int 1))) asB)
    (sSet 4 (eM (eM (eLc (eB (eVar 4) itD) (gtName 5) (eB (eBin gEq (eBin gIx (eVar 5) (eC (.int 1))) (eTup aNil)) asB) (eM (eVar 5) Ow.d) (List.map (·.2) ([("_law_row", 5)] : List (Str × Nat)))) viewD) Ow.d))
    sSkip)
    (sSeq (sXAsg (gtTup 2 (gtCons (gtName 6) (gtCons (gtName 7) gtNil))) (xBin gIx (xP (eVar 4)) (xCallK (m 10) 0 (xCons (xP (eM (eCa gLen (aCons (eVar 4) aNil)) viewD)) xNil))))
    (sSeq (sXSet 8 (xCallK (m 11) 0 xNil))
    (sXRet (xTup (xCons (xP (eVar 6)) (xCons (xP (eVar 8)) (xCons (xCa gTuple (xCons (xLc (eB (eVar 7) itD) (gtName 9) (xCallK (m 27) 0 (xCons (xP (eVar 1)) (xCons (xP (eVar 9)) (xCons (xP (eBin gSub (eVar 3) (eC (.int 1)))) xNil)))) (List.map (·.2) ([("_law_branch", 9)] : List (Str × Nat)))) xNil)) xNil)))))))))
/-- _law_begins: 0 _law_stump, 1 _law_tree_here, 2 _law_part, 3 _law_branch -/
noncomputable def b__law_begins (m : Nat → List PyData → R Ow) : Ev → SR :=
    (sSeq (sIf (eB (eBin gEq (eBin gIx (eVar 0) (eC (.int 0))) (eC (.str "open"))) asB)
    (sRet (eM (eC (.bool true)) Ow.d))
    sSkip)
    (sSeq (sIf (eB (eBin gNe (eTup (aCons (eBin gIx (eVar 0) (eC (.int 1))) (aCons (eBin gIx (eVar 0) (eC (.int 2))) (aCons (eM (eCa gLen (aCons (eBin gIx (eVar 0) (eC (.int 3))) aNil)) viewD) aNil)))) (eTup (aCons (eBin gIx (eVar 1) (eC (.int 0))) (aCons (eBin gIx (eVar 1) (eC (.int 1))) (aCons (eM (eCa gLen (aCons (eBin gIx (eVar 1) (eC (.int 2))) aNil)) viewD) aNil))))) asB)
    (sRet (eM (eC (.bool false)) Ow.d))
    sSkip)
    (sSeq (sFor (eB (aCons (eBin gIx (eVar 0) (eC (.int 3))) (aCons (eBin gIx (eVar 1) (eC (.int 2))) aNil)) zpArg) (gtTup 2 (gtCons (gtName 2) (gtCons (gtName 3) gtNil)))
    (sIf (tNotE (eB (eM (eB (aCons (eVar 2) (aCons (eVar 3) aNil)) (m 28)) viewD) asB))
    (sRet (eM (eC (.bool false)) Ow.d))
    sSkip))
    (sRet (eM (eC (.bool true)) Ow.d)))))
/-- _law_stumps: 0 _law_found, 1 _law_count, 2 _law_stump -/
noncomputable def b__law_stumps (m : Nat → List PyData → R Ow) : Ev → SR :=
    (sSeq (sIf (tOrE (tNotE (eB (eB (eVar 0) (gIsi "list")) asB)) (eB (eBin gNe (eM (eCa gLen (aCons (eVar 0) aNil)) viewD) (eVar 1)) asB))
    (sRet (eM (eC (.bool false)) Ow.d))
    sSkip)
    (sSeq (sFor (eB (eVar 0) itD) (gtName 2)
    (sIf (tNotE (eB (eM (eB (aCons (eVar 2) aNil) (m 23)) viewD) asB))
    (sRet (eM (eC (.bool false)) Ow.d))
    sSkip))
    (sRet (eM (eC (.bool true)) Ow.d))))
/-- law: 0 _law_script, 1 _law_deck, 2 _law_code, 3 _law_turning_here, 4 _law_handed, 5 _law_count, 6 _law_tables, 7 _law_deep, 8 _law_table, 9 _law_kept, 10 _law_mode, 11 _law_k, 12 _law_tree_here, 13 _law_due, 14 _law_again -/
noncomputable def b_law (m : Nat → List PyData → R Ow) : Ev → SR :=
    (sSeq (sSet 1 (eB (aCons (eVar 0) (aCons (eC (.int 1000)) aNil)) (m 9)))
    (sSeq (sXSet 2 (xCallK (m 10) 1 (xCons (xP (eBin gPow (eC (.int 10)) (eC (.int 6)))) xNil)))
    (sSeq (sXSet 3 (xCallK (m 19) 1 (xCons (xP (eVar 2)) (xCons (xCallK (m 13) 1 (xCons (xP (eVar 2)) xNil)) xNil))))
    (sSeq (sSet 4 (eM (eM (eB (aCons (eVar 3) aNil) (m 21)) viewD) Ow.d))
    (sSeq (sSet 5 (eM (eM (eCa gLen (aCons (eBin gIx (eVar 3) (eC (.int 2))) aNil)) viewD) Ow.d))
    (sSeq (sSet 6 (eAddO (eLc (eB (eM (eLst (aCons (eC (.int 1)) (aCons (eC (.int 2)) (aCons (eC (.int 3)) (aCons (eC (.int 4)) aNil))))) viewD) itD) (gtName 7) cYes (eB (aCons (eVar 4) (aCons (eVar 7) aNil)) (m 7)) (List.map (·.2) ([("_law_deep", 7)] : List (Str × Nat)))) (eLstO (oCons (eB (aCons (eVar 4) aNil) (m 8)) oNil))))
    (sSeq (sThaw 6 [8] [0, 1, 2, 3, 4, 5, 7, 9, 10, 11, 12, 13, 14] (sFor (eB (eVar 6) itD) (gtName 8)
    (sIf (tNotE (eB (eCallV (m 29) (aCons (eM (eVarO 8) viewD) (aCons (eVar 5) aNil))) asB))
    (sRet (eM (eC (.bool false)) Ow.d))
    sSkip)))
    (sSeq (sThaw 6 [] [0, 1, 2, 3, 4, 5, 7, 10, 11, 12, 13, 14] (sSet 9 (eLc (eB (eVar 6) itD) (gtName 8) cYes (eCa gList (aCons (eB (eVarO 8) shD) aNil)) (List.map (·.2) ([("_law_table", 8)] : List (Str × Nat))))))
    (sSeq (sFor (eB (aCons (eVar 5) aNil) rg1) (gtName 10)
    (sFor (eB (aCons (eC (.int 8)) aNil) rg1) (gtName 11)
    (sSeq (sSet 7 (eM (eM (eBinO gAdd (eC (.int 1)) (eBin gMod (eVar 11) (eC (.int 3)))) viewD) Ow.d))
    (sSeq (sXSet 12 (xCallK (m 27) 1 (xCons (xP (eBin gIx (eVar 3) (eC (.int 0)))) (xCons (xP (eBin gIx (eBin gIx (eBin gIx (eVar 3) (eC (.int 2))) (eVar 10)) (eC (.int 0)))) (xCons (xP (eVar 7)) xNil)))))
    (sSeq (sSet 13 (eM (eM (eB (aCons (eVar 3) (aCons (eVar 10) (aCons (eVar 12) aNil))) (m 25)) viewD) Ow.d))
    (sThaw 6 [8] [0, 1, 2, 3, 4, 5, 7, 9, 10, 11, 12, 13, 14] (sFor (eB (eM (eBinO gAdd (eB (eSl (eVar 6) (eB (eBin gSub (eVar 7) (eC (.int 1))) asI) (eB (eM (eBinO gAdd (eVar 7) (eC (.int 1))) viewD) asI)) shD) (eB (eSl (eVar 6) (eB (eC (.int 4)) asI) oNone) shD)) viewD) itD) (gtName 8)
    (sIf (tNotE (eB (eM (eB (aCons (eBin gIx (eB (eVarO 8) shD) (eVar 10)) (aCons (eVar 13) aNil)) (m 28)) viewD) asB))
    (sRet (eM (eC (.bool false)) Ow.d))
    sSkip))))))))
    (sSeq (sForOwn 6 8 (sSeq (sRevS 8)
    (sApp 8 (eM (eTup (aCons (eC (.str "open")) aNil)) Ow.d))))
    (sSeq (sSet 14 (eM (eM (eBinO gAdd (eB (eLst (aCons (eM (eB (aCons (eVar 4) aNil) (m 8)) viewD) aNil)) shD) (eM (eLc (eB (aCons (eC (.int 4)) aNil) rg1) (gtName 11) cYes (eB (aCons (eVar 4) (aCons (eBin gSub (eC (.int 4)) (eVar 11)) aNil)) (m 7)) (List.map (·.2) ([("_law_k", 11)] : List (Str × Nat)))) viewD)) viewD) Ow.d))
    (sRet (eM (eAnd (eBin gEq (eM (eListRev (eVar 14)) viewD) (eM (eVarO 9) viewD)) (eBin gEq (eVar 4) (eVar 3))) Ow.d)))))))))))))
noncomputable def mir : Nat → Nat → List PyData → R Ow
  | 0, _ => fun _ => .no
  | n + 1, i => match i with
    | 0 => runB 2 (b_met (mir n))
    | 1 => runB 2 (b_rows_of (mir n))
    | 2 => runB 1 (b_stump_in (mir n))
    | 3 => runB 2 (b_met_of (mir n))
    | 4 => runB 6 (b_first_commons (mir n))
    | 5 => runB 3 (b_next_commons (mir n))
    | 6 => runB 2 (b_by_levels (mir n))
    | 7 => runB 0 (b_commons_within (mir n))
    | 8 => runB 2 (b_commons (mir n))
    | 9 => runB 3 (b__law_numbers (mir n))
    | 10 => runK 0 (b__law_draw (mir n))
    | 11 => runK 1 (b__law_mark (mir n))
    | 12 => runB 7 (b__law_name (mir n))
    | 13 => runK 8 (b__law_wood (mir n))
    | 14 => runB 2 (b__law_rows (mir n))
    | 15 => runK 5 (b__law_term (mir n))
    | 16 => runK 4 (b__law_changed (mir n))
    | 17 => runB 3 (b__law_calls (mir n))
    | 18 => runK 1 (b__law_rule (mir n))
    | 19 => runK 9 (b__law_turning (mir n))
    | 20 => runB 1 (b__law_bare (mir n))
    | 21 => runB 4 (b__law_copy (mir n))
    | 22 => runB 0 (b__law_whole (mir n))
    | 23 => runB 1 (b__law_is_stump (mir n))
    | 24 => runB 4 (b__law_rule_of (mir n))
    | 25 => runB 0 (b__law_made (mir n))
    | 26 => runB 2 (b__law_made_by (mir n))
    | 27 => runK 6 (b__law_tree (mir n))
    | 28 => runB 2 (b__law_begins (mir n))
    | 29 => runB 1 (b__law_stumps (mir n))
    | 30 => runB 14 (b_law (mir n))
    | _ => fun _ => .no
theorem mir_met (n : Nat) (ds : List PyData) : mir (n + 1) 0 ds = runB 2 (b_met (mir n)) ds := rfl
theorem mir_rows_of (n : Nat) (ds : List PyData) : mir (n + 1) 1 ds = runB 2 (b_rows_of (mir n)) ds := rfl
theorem mir_stump_in (n : Nat) (ds : List PyData) : mir (n + 1) 2 ds = runB 1 (b_stump_in (mir n)) ds := rfl
theorem mir_met_of (n : Nat) (ds : List PyData) : mir (n + 1) 3 ds = runB 2 (b_met_of (mir n)) ds := rfl
theorem mir_first_commons (n : Nat) (ds : List PyData) : mir (n + 1) 4 ds = runB 6 (b_first_commons (mir n)) ds := rfl
theorem mir_next_commons (n : Nat) (ds : List PyData) : mir (n + 1) 5 ds = runB 3 (b_next_commons (mir n)) ds := rfl
theorem mir_by_levels (n : Nat) (ds : List PyData) : mir (n + 1) 6 ds = runB 2 (b_by_levels (mir n)) ds := rfl
theorem mir_commons_within (n : Nat) (ds : List PyData) : mir (n + 1) 7 ds = runB 0 (b_commons_within (mir n)) ds := rfl
theorem mir_commons (n : Nat) (ds : List PyData) : mir (n + 1) 8 ds = runB 2 (b_commons (mir n)) ds := rfl
theorem mir__law_numbers (n : Nat) (ds : List PyData) : mir (n + 1) 9 ds = runB 3 (b__law_numbers (mir n)) ds := rfl
theorem mir__law_draw (n : Nat) (ds : List PyData) : mir (n + 1) 10 ds = runK 0 (b__law_draw (mir n)) ds := rfl
theorem mir__law_mark (n : Nat) (ds : List PyData) : mir (n + 1) 11 ds = runK 1 (b__law_mark (mir n)) ds := rfl
theorem mir__law_name (n : Nat) (ds : List PyData) : mir (n + 1) 12 ds = runB 7 (b__law_name (mir n)) ds := rfl
theorem mir__law_wood (n : Nat) (ds : List PyData) : mir (n + 1) 13 ds = runK 8 (b__law_wood (mir n)) ds := rfl
theorem mir__law_rows (n : Nat) (ds : List PyData) : mir (n + 1) 14 ds = runB 2 (b__law_rows (mir n)) ds := rfl
theorem mir__law_term (n : Nat) (ds : List PyData) : mir (n + 1) 15 ds = runK 5 (b__law_term (mir n)) ds := rfl
theorem mir__law_changed (n : Nat) (ds : List PyData) : mir (n + 1) 16 ds = runK 4 (b__law_changed (mir n)) ds := rfl
theorem mir__law_calls (n : Nat) (ds : List PyData) : mir (n + 1) 17 ds = runB 3 (b__law_calls (mir n)) ds := rfl
theorem mir__law_rule (n : Nat) (ds : List PyData) : mir (n + 1) 18 ds = runK 1 (b__law_rule (mir n)) ds := rfl
theorem mir__law_turning (n : Nat) (ds : List PyData) : mir (n + 1) 19 ds = runK 9 (b__law_turning (mir n)) ds := rfl
theorem mir__law_bare (n : Nat) (ds : List PyData) : mir (n + 1) 20 ds = runB 1 (b__law_bare (mir n)) ds := rfl
theorem mir__law_copy (n : Nat) (ds : List PyData) : mir (n + 1) 21 ds = runB 4 (b__law_copy (mir n)) ds := rfl
theorem mir__law_whole (n : Nat) (ds : List PyData) : mir (n + 1) 22 ds = runB 0 (b__law_whole (mir n)) ds := rfl
theorem mir__law_is_stump (n : Nat) (ds : List PyData) : mir (n + 1) 23 ds = runB 1 (b__law_is_stump (mir n)) ds := rfl
theorem mir__law_rule_of (n : Nat) (ds : List PyData) : mir (n + 1) 24 ds = runB 4 (b__law_rule_of (mir n)) ds := rfl
theorem mir__law_made (n : Nat) (ds : List PyData) : mir (n + 1) 25 ds = runB 0 (b__law_made (mir n)) ds := rfl
theorem mir__law_made_by (n : Nat) (ds : List PyData) : mir (n + 1) 26 ds = runB 2 (b__law_made_by (mir n)) ds := rfl
theorem mir__law_tree (n : Nat) (ds : List PyData) : mir (n + 1) 27 ds = runK 6 (b__law_tree (mir n)) ds := rfl
theorem mir__law_begins (n : Nat) (ds : List PyData) : mir (n + 1) 28 ds = runB 2 (b__law_begins (mir n)) ds := rfl
theorem mir__law_stumps (n : Nat) (ds : List PyData) : mir (n + 1) 29 ds = runB 1 (b__law_stumps (mir n)) ds := rfl
theorem mir_law (n : Nat) (ds : List PyData) : mir (n + 1) 30 ds = runB 14 (b_law (mir n)) ds := rfl
theorem run_met (m : Nat → List PyData → R Ow) (ds : List PyData) : runB 2 (b_met m) ds = finR (((sSeq (sIf (tOrE (eB (eBin gEq (eBin gIx (eVar 0) (eC (.int 0))) (eC (.str "open"))) asB) (eB (eBin gEq (eBin gIx (eVar 1) (eC (.int 0))) (eC (.str "open"))) asB))
    (sRet (eM (eTup (aCons (eC (.str "open")) aNil)) Ow.d))
    sSkip)
    (sSeq (sIf (tOrE (eB (eBin gNe (eBin gIx (eVar 0) (eC (.int 1))) (eBin gIx (eVar 1) (eC (.int 1)))) asB) (tOrE (eB (eBin gNe (eBin gIx (eVar 0) (eC (.int 2))) (eBin gIx (eVar 1) (eC (.int 2)))) asB) (eB (eBin gNe (eM (eCa gLen (aCons (eBin gIx (eVar 0) (eC (.int 3))) aNil)) viewD) (eM (eCa gLen (aCons (eBin gIx (eVar 1) (eC (.int 3))) aNil)) viewD)) asB)))
    (sRet (eM (eTup (aCons (eC (.str "open")) aNil)) Ow.d))
    sSkip)
    (sRet (eM (eTup (aCons (eC (.str "put")) (aCons (eBin gIx (eVar 0) (eC (.int 1))) (aCons (eBin gIx (eVar 0) (eC (.int 2))) (aCons (eM (eCa gTuple (aCons (eB (eLc (eB (aCons (eBin gIx (eVar 0) (eC (.int 3))) (aCons (eBin gIx (eVar 1) (eC (.int 3))) aNil)) zpArg) (gtTup 2 (gtCons (gtName 2) (gtCons (gtName 3) gtNil))) cYes (eB (aCons (eVar 2) (aCons (eVar 3) aNil)) (m 0)) (List.map (·.2) ([("a", 2), ("b", 3)] : List (Str × Nat)))) shD) aNil)) viewD) aNil))))) Ow.d))))) (envOf 2 ds)) := runB_fin _ _ _
theorem run_rows_of (m : Nat → List PyData → R Ow) (ds : List PyData) : runB 2 (b_rows_of m) ds = finR (((sSeq (sFor (eB (eVar 0) itD) (gtTup 2 (gtCons (gtName 2) (gtCons (gtName 3) gtNil)))
    (sIf (eB (eBin gEq (eVar 2) (eVar 1)) asB)
    (sRet (eM (eVar 3) Ow.d))
    sSkip))
    (sRet (eLst aNil)))) (envOf 2 ds)) := runB_fin _ _ _
theorem run_stump_in (m : Nat → List PyData → R Ow) (ds : List PyData) : runB 1 (b_stump_in m) ds = finR (((sSeq (sIf (eB (eBin gEq (eBin gIx (eVar 0) (eC (.int 0))) (eC (.str "call"))) asB)
    (sRet (eM (eBin gIx (eVar 1) (eBin gIx (eVar 0) (eC (.int 1)))) Ow.d))
    sSkip)
    (sSeq (sIf (eB (eBin gIx (eVar 0) (eC (.int 2))) asB)
    (sRet (eM (eTup (aCons (eC (.str "open")) aNil)) Ow.d))
    sSkip)
    (sRet (eM (eTup (aCons (eC (.str "put")) (aCons (eBin gIx (eVar 0) (eC (.int 1))) (aCons (eBin gIx (eVar 0) (eC (.int 3))) (aCons (eM (eCa gTuple (aCons (eB (eLc (eB (eBin gIx (eVar 0) (eC (.int 4))) itD) (gtName 2) cYes (eB (aCons (eVar 2) (aCons (eVar 1) aNil)) (m 2)) (List.map (·.2) ([("part", 2)] : List (Str × Nat)))) shD) aNil)) viewD) aNil))))) Ow.d))))) (envOf 1 ds)) := runB_fin _ _ _
theorem run_met_of (m : Nat → List PyData → R Ow) (ds : List PyData) : runB 2 (b_met_of m) ds = finR (((sSeq (sSet 1 (eM (eBin gIx (eVar 0) (eC (.int 0))) Ow.d))
    (sSeq (sFor (eB (eM (eSl (eVar 0) (eB (eC (.int 1)) asI) oNone) viewD) itD) (gtName 2)
    (sSet 1 (eM (eM (eB (aCons (eVar 1) (aCons (eVar 2) aNil)) (m 0)) viewD) Ow.d)))
    (sRet (eM (eVar 1) Ow.d))))) (envOf 2 ds)) := runB_fin _ _ _
theorem run_first_commons (m : Nat → List PyData → R Ow) (ds : List PyData) : runB 6 (b_first_commons m) ds = finR (((sSeq (sSet 1 (eLst aNil))
    (sSeq (sFor (eB (eBin gIx (eVar 0) (eC (.int 2))) itD) (gtTup 2 (gtCons (gtName 2) (gtCons (gtName 3) gtNil)))
    (sSeq (sSet 4 (eLst aNil))
    (sSeq (sFor (eB (aCons (eM (eB (aCons (eBin gIx (eVar 0) (eC (.int 0))) (aCons (eVar 2) aNil)) (m 1)) viewD) (aCons (eVar 3) aNil)) zpArg) (gtTup 2 (gtCons (gtName 5) (gtCons (gtName 6) gtNil)))
    (sIf (eB (eBin gEq (eBin gIx (eVar 5) (eC (.int 1))) (eTup aNil)) asB)
    (sApp 4 (eB (aCons (eVar 6) (aCons (eM (eLst aNil) viewD) aNil)) (m 2)))
    sSkip))
    (sFrz 4 (sApp 1 (eB (aCons (eVar 4) aNil) (m 3)))))))
    (sRetV 1)))) (envOf 6 ds)) := runB_fin _ _ _
theorem run_next_commons (m : Nat → List PyData → R Ow) (ds : List PyData) : runB 3 (b_next_commons m) ds = finR (((sSeq (sSet 2 (eLst aNil))
    (sSeq (sFor (eB (eBin gIx (eVar 0) (eC (.int 2))) itD) (gtName 3)
    (sApp 2 (eB (aCons (eM (eLc (eB (eBin gIx (eVar 3) (eC (.int 1))) itD) (gtName 4) cYes (eB (aCons (eVar 4) (aCons (eVar 1) aNil)) (m 2)) (List.map (·.2) ([("rule", 4)] : List (Str × Nat)))) viewD) aNil) (m 3))))
    (sRetV 2)))) (envOf 3 ds)) := runB_fin _ _ _
theorem run_by_levels (m : Nat → List PyData → R Ow) (ds : List PyData) : runB 2 (b_by_levels m) ds = finR (((sSeq (sSet 2 (eLst (aCons (eM (eB (aCons (eVar 0) aNil) (m 4)) viewD) aNil)))
    (sSeq (whileN (eB (eBin gLt (eM (eCa gLen (aCons (eB (eVarO 2) shD) aNil)) viewD) (eVar 1)) asB)
    (sSeq (sSet 3 (eM (eM (eB (aCons (eVar 0) (aCons (eBin gIx (eB (eVarO 2) shD) (eB (eC (.int 1)) gNeg)) aNil)) (m 5)) viewD) Ow.d))
    (sSeq (sIf (eB (eBin gEq (eVar 3) (eBin gIx (eB (eVarO 2) shD) (eB (eC (.int 1)) gNeg))) asB)
    (sRetV 2)
    sSkip)
    (sApp 2 (eM (eVar 3) Ow.d)))) 1000000)
    (sRetV 2)))) (envOf 2 ds)) := runB_fin _ _ _
theorem run_commons_within (m : Nat → List PyData → R Ow) (ds : List PyData) : runB 0 (b_commons_within m) ds = finR (((sRet (eCa gList (aCons (eBin gIx (eB (eB (aCons (eVar 0) (aCons (eVar 1) aNil)) (m 6)) shD) (eB (eC (.int 1)) gNeg)) aNil)))) (envOf 0 ds)) := runB_fin _ _ _
theorem run_commons (m : Nat → List PyData → R Ow) (ds : List PyData) : runB 2 (b_commons m) ds = finR (((sSeq (sSet 1 (eB (aCons (eVar 0) aNil) (m 4)))
    (sSeq (sThaw 1 [] [0] (sSet 2 (eB (aCons (eVar 0) (aCons (eVar 1) aNil)) (m 5))))
    (sSeq (whileN (eB (eBin gNe (eM (eVarO 2) viewD) (eM (eVarO 1) viewD)) asB)
    (sSeq (sMove 1 2)
    (sThaw 1 [] [0] (sSet 2 (eB (aCons (eVar 0) (aCons (eVar 1) aNil)) (m 5))))) 1000000)
    (sRetV 1))))) (envOf 2 ds)) := runB_fin _ _ _
theorem run__law_numbers (m : Nat → List PyData → R Ow) (ds : List PyData) : runB 3 (b__law_numbers m) ds = finR (((sSeq (sSet 2 (eLc (eB (eM (eSl (eVar 0) oNone (eB (eVar 1) asI)) viewD) itD) (gtName 3) cYes (eM (eBin gMod (eVar 3) (eBin gPow (eC (.int 10)) (eC (.int 59)))) Ow.d) (List.map (·.2) ([("_law_cell", 3)] : List (Str × Nat)))))
    (sSeq (sSet 4 (eM (eM (eBinO gAdd (eC (.int 48271)) (eBin gMod (eM (eCa gSum (aCons (eB (eVarO 2) shD) aNil)) viewD) (eC (.int 2147483647)))) viewD) Ow.d))
    (sSeq (whileN (eB (eBin gLt (eM (eCa gLen (aCons (eB (eVarO 2) shD) aNil)) viewD) (eVar 1)) asB)
    (sSeq (sSet 4 (eM (eBin gMod (eM (eBinO gAdd (eB (eBinO gAdd (eBin gMul (eVar 4) (eVar 4)) (eBin gMul (eC (.int 48271)) (eVar 4))) shD) (eB (eCa gLen (aCons (eB (eVarO 2) shD) aNil)) shD)) viewD) (eC (.int 2147483647))) Ow.d))
    (sApp 2 (eM (eVar 4) Ow.d))) 1000000)
    (sRet (eListRev (eB (eVarO 2) shD))))))) (envOf 3 ds)) := runB_fin _ _ _
theorem run__law_draw (m : Nat → List PyData → R Ow) (dk ds : List PyData) : runK 0 (b__law_draw m) (.list dk :: ds) = finK (((sSeq (sIf (eB (eBin gEq (eM (eVarO 0) viewD) (eM (eLst aNil) viewD)) asB)
    (sRet (eM (eC (.int 0)) Ow.d))
    sSkip)
    (sXRet (xBin gMod (xPop 0) (xP (eVar 1)))))) (some (.l (dk.map Ow.d)) :: envOf 0 ds)) := runK_fin _ _ _ _
theorem run__law_mark (m : Nat → List PyData → R Ow) (dk ds : List PyData) : runK 1 (b__law_mark m) (.list dk :: ds) = finK (((sSeq (sXSet 1 (xCallK (m 10) 0 (xCons (xP (eBin gPow (eC (.int 10)) (eC (.int 59)))) xNil)))
    (sSeq (sIf (eB (eBin gEq (eBin gMod (eVar 1) (eC (.int 4))) (eC (.int 3))) asB)
    (sRet (eM (eBin gSub (eBin gMod (eBin gDiv (eVar 1) (eC (.int 4))) (eM (eBinO gAdd (eBin gMul (eC (.int 2)) (eBin gPow (eC (.int 10)) (eC (.int 57)))) (eC (.int 1))) viewD)) (eBin gPow (eC (.int 10)) (eC (.int 57)))) Ow.d))
    sSkip)
    (sRet (eM (eBin gDiv (eBin gMod (eBin gDiv (eVar 1) (eC (.int 4))) (eC (.int 3))) (eC (.int 2))) Ow.d))))) (some (.l (dk.map Ow.d)) :: envOf 1 ds)) := runK_fin _ _ _ _
theorem run__law_name (m : Nat → List PyData → R Ow) (ds : List PyData) : runB 7 (b__law_name m) ds = finR (((sSeq (sSet 2 (eM (eC (.str "abcdefghijklmnopqrstuvwxyz")) Ow.d))
    (sSeq (sSet 3 (eM (eBin gMod (eBin gDiv (eVar 0) (eC (.int 64))) (eC (.int 26))) Ow.d))
    (sSeq (sIf (eB (eBin gEq (eBin gMod (eBin gDiv (eVar 0) (eC (.int 1664))) (eC (.int 3))) (eC (.int 2))) asB)
    (sRet (eM (eBin gMulS (eBin gIx (eVar 2) (eBin gMod (eM (eBinO gAdd (eVar 3) (eBin gDiv (eVar 1) (eC (.int 8)))) viewD) (eC (.int 26)))) (eM (eBinO gAdd (eC (.int 1)) (eBin gMod (eVar 1) (eC (.int 8)))) viewD)) Ow.d))
    sSkip)
    (sSeq (sSet 4 (eM (eM (eBinO gAdd (eC (.int 1)) (eBin gMod (eVar 0) (eC (.int 8)))) viewD) Ow.d))
    (sSeq (sSet 5 (eM (eBin gMod (eBin gDiv (eVar 0) (eC (.int 8))) (eVar 4)) Ow.d))
    (sSeq (sSet 6 (eM (eC (.str "")) Ow.d))
    (sSeq (sFor (eB (aCons (eVar 4) aNil) rg1) (gtName 7)
    (sSeq (sSet 8 (eM (eBin gMul (eBin gMod (eBin gDiv (eVar 0) (eC (.int 1664))) (eC (.int 3))) (eVar 7)) Ow.d))
    (sSeq (sIf (eB (eBin gEq (eVar 7) (eVar 5)) asB)
    (sSet 8 (eM (eM (eBinO gAdd (eVar 8) (eVar 1)) viewD) Ow.d))
    sSkip)
    (sSet 6 (eM (eM (eBinO gAdd (eVar 6) (eBin gIx (eVar 2) (eBin gMod (eM (eBinO gAdd (eVar 3) (eVar 8)) viewD) (eC (.int 26))))) viewD) Ow.d)))))
    (sRet (eM (eVar 6) Ow.d)))))))))) (envOf 7 ds)) := runB_fin _ _ _
theorem run__law_wood (m : Nat → List PyData → R Ow) (dk ds : List PyData) : runK 8 (b__law_wood m) (.list dk :: ds) = finK (((sSeq (sXSet 2 (xBin (gI0 fun i j => i + j) (xP (eC (.int 1))) (xCallK (m 10) 0 (xCons (xP (eC (.int 3))) xNil))))
    (sSeq (sXSet 3 (xBin gMul (xCallK (m 10) 0 (xCons (xP (eC (.int 2))) xNil)) (xP (eC (.int 3)))))
    (sSeq (sSet 4 (eLst aNil))
    (sSeq (sFor (eB (aCons (eVar 2) aNil) rg1) (gtName 5)
    (sSeq (sSet 6 (eLst (aCons (eTup (aCons (eM (eB (aCons (eVar 1) (aCons (eM (eBinO gAdd (eC (.int 3)) (eBin gMul (eVar 3) (eVar 5))) viewD) aNil)) (m 12)) viewD) (aCons (eTup aNil) aNil))) aNil)))
    (sSeq (sXFor (xRg1 (xCons (xCallK (m 10) 0 (xCons (xP (eC (.int 3))) xNil)) xNil)) (gtName 7)
    (sSeq (sXSet 8 (xLc2 (xRg1 (xCons (xCallK (m 10) 0 (xCons (xP (eC (.int 5))) xNil)) xNil)) (gtName 9) (xCall (m 12) (xCons (xP (eVar 1)) (xCons (xCallK (m 10) 0 (xCons (xP (eVar 2)) xNil)) xNil))) (List.map (·.2) ([("_law_i", 9)] : List (Str × Nat)))))
    (sApp 6 (eM (eTup (aCons (eM (eB (aCons (eVar 1) (aCons (eM (eBinO gAdd (eB (eBinO gAdd (eC (.int 4)) (eVar 7)) shD) (eBin gMul (eVar 3) (eVar 5))) viewD) aNil)) (m 12)) viewD) (aCons (eM (eCa gTuple (aCons (eVar 8) aNil)) viewD) aNil))) Ow.d))))
    (sApp 4 (eM (eTup (aCons (eM (eB (aCons (eVar 1) (aCons (eVar 5) aNil)) (m 12)) viewD) (aCons (eM (eCa gSorted (aCons (eB (eVarO 6) shD) aNil)) viewD) aNil))) Ow.d)))))
    (sFrz 4 (sRet (eM (eVar 4) Ow.d)))))))) (some (.l (dk.map Ow.d)) :: envOf 8 ds)) := runK_fin _ _ _ _
theorem run__law_rows (m : Nat → List PyData → R Ow) (ds : List PyData) : runB 2 (b__law_rows m) ds = finR (((sRet (eM (eBin gIx (eB (eLc (eB (eVar 0) itD) (gtTup 2 (gtCons (gtName 2) (gtCons (gtName 3) gtNil))) (eB (eBin gEq (eVar 2) (eVar 1)) asB) (eM (eVar 3) Ow.d) (List.map (·.2) ([("_law_told", 2), ("_law_rows_here", 3)] : List (Str × Nat)))) shD) (eC (.int 0))) Ow.d))) (envOf 2 ds)) := runB_fin _ _ _
theorem run__law_term (m : Nat → List PyData → R Ow) (dk ds : List PyData) : runK 5 (b__law_term m) (.list dk :: ds) = finK (((sSeq (sXSet 4 (xCallK (m 10) 0 (xCons (xP (eC (.int 8))) xNil)))
    (sSeq (sIf (tAndE (eB (eBin gGt (eVar 4) (eC (.int 4))) asB) (eB (eBin gNe (eVar 2) (eM (eLst aNil) viewD)) asB))
    (sXRet (xBinO gAdd (xP (eTup (aCons (eC (.str "call")) aNil))) (xBin gIx (xP (eVar 2)) (xCallK (m 10) 0 (xCons (xP (eM (eCa gLen (aCons (eVar 2) aNil)) viewD)) xNil)))))
    sSkip)
    (sSeq (sSet 5 (eLst aNil))
    (sSeq (sIf (eB (eBin gGt (eVar 3) (eC (.int 0))) asB)
    (sSeq (sXSet 6 (xCallK (m 10) 0 (xCons (xP (eC (.int 4))) xNil)))
    (sFor (eB (aCons (eVar 6) aNil) rg1) (gtName 7)
    (sXApp 5 (xCallK (m 15) 0 (xCons (xP (eVar 1)) (xCons (xP (eVar 2)) (xCons (xP (eBin gSub (eBin gSub (eVar 3) (eC (.int 1))) (eBin gDiv (eVar 6) (eC (.int 3))))) xNil)))))))
    sSkip)
    (sSeq (sXSet 8 (xCall (m 12) (xCons (xP (eVar 1)) (xCons (xBin (gI0 fun i j => i + j) (xP (eC (.int 3))) (xCallK (m 10) 0 (xCons (xP (eC (.int 3))) xNil))) xNil))))
    (sXRet (xTup (xCons (xP (eC (.str "put"))) (xCons (xP (eVar 8)) (xCons (xP (eBin gEq (eVar 4) (eC (.int 0)))) (xCons (xCallK (m 11) 0 xNil) (xCons (xP (eM (eCa gTuple (aCons (eB (eVarO 5) shD) aNil)) viewD)) xNil))))))))))))) (some (.l (dk.map Ow.d)) :: envOf 5 ds)) := runK_fin _ _ _ _
theorem run__law_changed (m : Nat → List PyData → R Ow) (dk ds : List PyData) : runK 4 (b__law_changed m) (.list dk :: ds) = finK (((sSeq (sXSet 4 (xCallK (m 10) 0 (xCons (xP (eC (.int 7))) xNil)))
    (sSeq (sIf (tAndE (eB (eBin gEq (eVar 4) (eC (.int 0))) asB) (eB (eBin gNe (eVar 3) (eM (eLst aNil) viewD)) asB))
    (sXRet (xBinO gAdd (xP (eTup (aCons (eC (.str "call")) aNil))) (xBin gIx (xP (eVar 3)) (xCallK (m 10) 0 (xCons (xP (eM (eCa gLen (aCons (eVar 3) aNil)) viewD)) xNil)))))
    sSkip)
    (sSeq (sIf (eB (eBin gEq (eVar 4) (eC (.int 1))) asB)
    (sSeq (sXSet 5 (xCall (m 12) (xCons (xP (eVar 1)) (xCons (xBin (gI0 fun i j => i + j) (xP (eC (.int 3))) (xCallK (m 10) 0 (xCons (xP (eC (.int 3))) xNil))) xNil))))
    (sXRet (xTup (xCons (xP (eC (.str "put"))) (xCons (xP (eVar 5)) (xCons (xP (eC (.bool false))) (xCons (xCallK (m 11) 0 xNil) (xCons (xP (eTup aNil)) xNil))))))))
    sSkip)
    (sSeq (sXSet 6 (xLc (eB (eBin gIx (eVar 2) (eC (.int 4))) itD) (gtName 7) (xCallK (m 16) 0 (xCons (xP (eVar 1)) (xCons (xP (eVar 7)) (xCons (xP (eVar 3)) xNil)))) (List.map (·.2) ([("_law_part", 7)] : List (Str × Nat)))))
    (sRet (eM (eTup (aCons (eC (.str "put")) (aCons (eBin gIx (eVar 2) (eC (.int 1))) (aCons (eAnd (eBin gIx (eVar 2) (eC (.int 2))) (eBin gLt (eVar 4) (eC (.int 5)))) (aCons (eBin gIx (eVar 2) (eC (.int 3))) (aCons (eM (eCa gTuple (aCons (eVar 6) aNil)) viewD) aNil)))))) Ow.d))))))) (some (.l (dk.map Ow.d)) :: envOf 4 ds)) := runK_fin _ _ _ _
theorem run__law_calls (m : Nat → List PyData → R Ow) (ds : List PyData) : runB 3 (b__law_calls m) ds = finR (((sSeq (sSet 2 (eLst aNil))
    (sSeq (sFor (eB (aCons (eM (eCa gLen (aCons (eVar 0) aNil)) viewD) aNil) rg1) (gtName 3)
    (sFor (eB (aCons (eM (eCa gLen (aCons (eVar 1) aNil)) viewD) aNil) rg1) (gtName 4)
    (sIf (eB (eBin gEq (eBin gIx (eVar 0) (eVar 3)) (eBin gIx (eVar 1) (eVar 4))) asB)
    (sApp 2 (eM (eTup (aCons (eVar 3) (aCons (eVar 4) aNil))) Ow.d))
    sSkip)))
    (sRetV 2)))) (envOf 3 ds)) := runB_fin _ _ _
theorem run__law_rule (m : Nat → List PyData → R Ow) (dk ds : List PyData) : runK 1 (b__law_rule m) (.list dk :: ds) = finK (((sSeq (sXSet 4 (xCallK (m 10) 0 (xCons (xP (eC (.int 3))) xNil)))
    (sSeq (sIf (eB (eBin gEq (eVar 4) (eC (.int 0))) asB)
    (sRet (eM (eVar 2) Ow.d))
    sSkip)
    (sSeq (sIf (eB (eBin gEq (eVar 4) (eC (.int 1))) asB)
    (sXRet (xCallK (m 16) 0 (xCons (xP (eVar 1)) (xCons (xP (eVar 2)) (xCons (xP (eVar 3)) xNil)))))
    sSkip)
    (sXRet (xCallK (m 15) 0 (xCons (xP (eVar 1)) (xCons (xP (eVar 3)) (xCons (xP (eC (.int 2))) xNil))))))))) (some (.l (dk.map Ow.d)) :: envOf 1 ds)) := runK_fin _ _ _ _
theorem run__law_turning (m : Nat → List PyData → R Ow) (dk ds : List PyData) : runK 9 (b__law_turning m) (.list dk :: ds) = finK (((sSeq (sSet 3 (eLst (aCons (eBin gIx (eBin gIx (eVar 2) (eC (.int 0))) (eC (.int 0))) aNil)))
    (sSeq (sXFor (xRg1 (xCons (xCallK (m 10) 0 (xCons (xP (eC (.int 4))) xNil)) xNil)) (gtName 4)
    (sXApp 3 (xBin gIx (xBin gIx (xP (eVar 2)) (xCallK (m 10) 0 (xCons (xP (eM (eCa gLen (aCons (eVar 2) aNil)) viewD)) xNil))) (xP (eC (.int 0))))))
    (sSeq (sSet 5 (eLst aNil))
    (sSeq (sFrz 3 (sFor (eB (eVar 3) itD) (gtName 6)
    (sSeq (sXSet 7 (xCallK (m 15) 0 (xCons (xP (eVar 1)) (xCons (xP (eM (eLst aNil) viewD)) (xCons (xP (eC (.int 2))) xNil)))))
    (sSeq (sSet 8 (eLst aNil))
    (sSeq (sFor (eB (eM (eB (aCons (eVar 2) (aCons (eVar 6) aNil)) (m 14)) viewD) itD) (gtTup 2 (gtCons (gtName 9) (gtCons (gtName 10) gtNil)))
    (sFrz 3 (sXApp 8 (xCallK (m 18) 0 (xCons (xP (eVar 1)) (xCons (xP (eVar 7)) (xCons (xP (eM (eB (aCons (eVar 3) (aCons (eVar 10) aNil)) (m 17)) viewD)) xNil)))))))
    (sFrz 8 (sApp 5 (eM (eTup (aCons (eVar 6) (aCons (eVar 8) aNil))) Ow.d))))))))
    (sSeq (sFrz 3 (sXSet 11 (xCallK (m 15) 0 (xCons (xP (eVar 1)) (xCons (xP (eM (eB (aCons (eVar 3) (aCons (eM (eLst (aCons (eBin gIx (eBin gIx (eVar 2) (eC (.int 0))) (eC (.int 0))) aNil)) viewD) aNil)) (m 17)) viewD)) (xCons (xP (eC (.int 1))) xNil))))))
    (sFrz 5 (sRet (eM (eTup (aCons (eVar 2) (aCons (eM (eB (aCons (eVar 11) aNil) (m 20)) viewD) (aCons (eVar 5) aNil)))) Ow.d))))))))) (some (.l (dk.map Ow.d)) :: envOf 9 ds)) := runK_fin _ _ _ _
theorem run__law_bare (m : Nat → List PyData → R Ow) (ds : List PyData) : runB 1 (b__law_bare m) ds = finR (((sSeq (sIf (eB (eBin gEq (eBin gIx (eVar 0) (eC (.int 0))) (eC (.str "call"))) asB)
    (sRet (eM (eVar 0) Ow.d))
    sSkip)
    (sRet (eM (eTup (aCons (eC (.str "put")) (aCons (eBin gIx (eVar 0) (eC (.int 1))) (aCons (eC (.bool false)) (aCons (eBin gIx (eVar 0) (eC (.int 3))) (aCons (eM (eCa gTuple (aCons (eB (eLc (eB (eBin gIx (eVar 0) (eC (.int 4))) itD) (gtName 1) cYes (eB (aCons (eVar 1) aNil) (m 20)) (List.map (·.2) ([("_law_part", 1)] : List (Str × Nat)))) shD) aNil)) viewD) aNil)))))) Ow.d)))) (envOf 1 ds)) := runB_fin _ _ _
theorem run__law_copy (m : Nat → List PyData → R Ow) (ds : List PyData) : runB 4 (b__law_copy m) ds = finR (((sSeq (sSet 1 (eM (eM (eLc (eB (eBin gIx (eVar 0) (eC (.int 0))) itD) (gtTup 2 (gtCons (gtName 2) (gtCons (gtName 3) gtNil))) cYes (eM (eTup (aCons (eVar 2) (aCons (eM (eCa gList (aCons (eVar 3) aNil)) viewD) aNil))) Ow.d) (List.map (·.2) ([("_law_kind", 2), ("_law_rows_here", 3)] : List (Str × Nat)))) viewD) Ow.d))
    (sRet (eM (eTup (aCons (eVar 1) (aCons (eBin gIx (eVar 0) (eC (.int 1))) (aCons (eM (eLc (eB (eBin gIx (eVar 0) (eC (.int 2))) itD) (gtTup 2 (gtCons (gtName 2) (gtCons (gtName 4) gtNil))) cYes (eM (eTup (aCons (eVar 2) (aCons (eM (eCa gList (aCons (eVar 4) aNil)) viewD) aNil))) Ow.d) (List.map (·.2) ([("_law_kind", 2), ("_law_rules", 4)] : List (Str × Nat)))) viewD) aNil)))) Ow.d)))) (envOf 4 ds)) := runB_fin _ _ _
theorem run__law_whole (m : Nat → List PyData → R Ow) (ds : List PyData) : runB 0 (b__law_whole m) ds = finR (((sRet (eM (eAnd (eB (eVar 0) (gIsi "int")) (eNot (eB (eVar 0) (gIsi "bool")))) Ow.d))) (envOf 0 ds)) := runB_fin _ _ _
theorem run__law_is_stump (m : Nat → List PyData → R Ow) (ds : List PyData) : runB 1 (b__law_is_stump m) ds = finR (((sSeq (sIf (tOrE (tNotE (eB (eB (eVar 0) (gIsi "tuple")) asB)) (eB (eBin gEq (eM (eCa gLen (aCons (eVar 0) aNil)) viewD) (eC (.int 0))) asB))
    (sRet (eM (eC (.bool false)) Ow.d))
    sSkip)
    (sSeq (sIf (eB (eBin gEq (eVar 0) (eTup (aCons (eC (.str "open")) aNil))) asB)
    (sRet (eM (eC (.bool true)) Ow.d))
    sSkip)
    (sSeq (sIf (tOrE (eB (eBin gNe (eM (eCa gLen (aCons (eVar 0) aNil)) viewD) (eC (.int 4))) asB) (tOrE (eB (eBin gNe (eBin gIx (eVar 0) (eC (.int 0))) (eC (.str "put"))) asB) (tOrE (tNotE (eB (eB (eBin gIx (eVar 0) (eC (.int 1))) (gIsi "str")) asB)) (tNotE (eB (eM (eB (aCons (eBin gIx (eVar 0) (eC (.int 2))) aNil) (m 22)) viewD) asB)))))
    (sRet (eM (eC (.bool false)) Ow.d))
    sSkip)
    (sSeq (sIf (tNotE (eB (eB (eBin gIx (eVar 0) (eC (.int 3))) (gIsi "tuple")) asB))
    (sRet (eM (eC (.bool false)) Ow.d))
    sSkip)
    (sSeq (sFor (eB (eBin gIx (eVar 0) (eC (.int 3))) itD) (gtName 1)
    (sIf (tNotE (eB (eM (eB (aCons (eVar 1) aNil) (m 23)) viewD) asB))
    (sRet (eM (eC (.bool false)) Ow.d))
    sSkip))
    (sRet (eM (eC (.bool true)) Ow.d)))))))) (envOf 1 ds)) := runB_fin _ _ _
theorem run__law_rule_of (m : Nat → List PyData → R Ow) (ds : List PyData) : runB 4 (b__law_rule_of m) ds = finR (((sSeq (sAsg (gtTup 2 (gtCons (gtName 3) (gtCons (gtName 4) gtNil))) (eBin gIx (eBin gIx (eVar 0) (eC (.int 2))) (eVar 1)))
    (sRet (eM (eBin gIx (eB (eLc (eB (aCons (eM (eB (aCons (eBin gIx (eVar 0) (eC (.int 0))) (aCons (eVar 3) aNil)) (m 14)) viewD) (aCons (eVar 4) aNil)) zpArg) (gtTup 2 (gtCons (gtName 5) (gtCons (gtName 6) gtNil))) (eB (eBin gEq (eBin gIx (eVar 5) (eC (.int 0))) (eVar 2)) asB) (eM (eVar 6) Ow.d) (List.map (·.2) ([("_law_row", 5), ("_law_rule_here", 6)] : List (Str × Nat)))) shD) (eC (.int 0))) Ow.d)))) (envOf 4 ds)) := runB_fin _ _ _
theorem run__law_made (m : Nat → List PyData → R Ow) (ds : List PyData) : runB 0 (b__law_made m) ds = finR (((sRet (eB (aCons (eVar 0) (aCons (eM (eB (aCons (eVar 0) (aCons (eVar 1) (aCons (eBin gIx (eVar 2) (eC (.int 0))) aNil))) (m 24)) viewD) (aCons (eVar 2) aNil))) (m 26)))) (envOf 0 ds)) := runB_fin _ _ _
theorem run__law_made_by (m : Nat → List PyData → R Ow) (ds : List PyData) : runB 2 (b__law_made_by m) ds = finR (((sSeq (sIf (eB (eBin gEq (eBin gIx (eVar 1) (eC (.int 0))) (eC (.str "call"))) asB)
    (sRet (eB (aCons (eVar 0) (aCons (eBin gIx (eVar 1) (eC (.int 1))) (aCons (eBin gIx (eBin gIx (eVar 2) (eC (.int 2))) (eBin gIx (eVar 1) (eC (.int 2)))) aNil))) (m 25)))
    sSkip)
    (sSeq (sSet 3 (eM (eM (eLc (eB (eBin gIx (eVar 1) (eC (.int 4))) itD) (gtName 4) cYes (eB (aCons (eVar 0) (aCons (eVar 4) (aCons (eVar 2) aNil))) (m 26)) (List.map (·.2) ([("_law_part", 4)] : List (Str × Nat)))) viewD) Ow.d))
    (sRet (eM (eTup (aCons (eBin gIx (eVar 1) (eC (.int 1))) (aCons (eM (eBinO gAdd (eBin gIx (eVar 1) (eC (.int 3))) (eBin gMul (eBin gIx (eVar 2) (eC (.int 1))) (eM (eCa gInt (aCons (eBin gIx (eVar 1) (eC (.int 2))) aNil)) viewD))) viewD) (aCons (eM (eCa gTuple (aCons (eVar 3) aNil)) viewD) aNil)))) Ow.d))))) (envOf 2 ds)) := runB_fin _ _ _
theorem run__law_tree (m : Nat → List PyData → R Ow) (dk ds : List PyData) : runK 6 (b__law_tree m) (.list dk :: ds) = finK (((sSeq (sSet 4 (eM (eM (eB (aCons (eVar 1) (aCons (eVar 2) aNil)) (m 14)) viewD) Ow.d))
    (sSeq (sIf (eB (eBin gEq (eVar 3) (eC (.int 1))) asB)
    (sSet 4 (eM (eM (eLc (eB (eVar 4) itD) (gtName 5) (eB (eBin gEq (eBin gIx (eVar 5) (eC (.int 1))) (eTup aNil)) asB) (eM (eVar 5) Ow.d) (List.map (·.2) ([("_law_row", 5)] : List (Str × Nat)))) viewD) Ow.d))
    sSkip)
    (sSeq (sXAsg (gtTup 2 (gtCons (gtName 6) (gtCons (gtName 7) gtNil))) (xBin gIx (xP (eVar 4)) (xCallK (m 10) 0 (xCons (xP (eM (eCa gLen (aCons (eVar 4) aNil)) viewD)) xNil))))
    (sSeq (sXSet 8 (xCallK (m 11) 0 xNil))
    (sXRet (xTup (xCons (xP (eVar 6)) (xCons (xP (eVar 8)) (xCons (xCa gTuple (xCons (xLc (eB (eVar 7) itD) (gtName 9) (xCallK (m 27) 0 (xCons (xP (eVar 1)) (xCons (xP (eVar 9)) (xCons (xP (eBin gSub (eVar 3) (eC (.int 1)))) xNil)))) (List.map (·.2) ([("_law_branch", 9)] : List (Str × Nat)))) xNil)) xNil)))))))))) (some (.l (dk.map Ow.d)) :: envOf 6 ds)) := runK_fin _ _ _ _
theorem run__law_begins (m : Nat → List PyData → R Ow) (ds : List PyData) : runB 2 (b__law_begins m) ds = finR (((sSeq (sIf (eB (eBin gEq (eBin gIx (eVar 0) (eC (.int 0))) (eC (.str "open"))) asB)
    (sRet (eM (eC (.bool true)) Ow.d))
    sSkip)
    (sSeq (sIf (eB (eBin gNe (eTup (aCons (eBin gIx (eVar 0) (eC (.int 1))) (aCons (eBin gIx (eVar 0) (eC (.int 2))) (aCons (eM (eCa gLen (aCons (eBin gIx (eVar 0) (eC (.int 3))) aNil)) viewD) aNil)))) (eTup (aCons (eBin gIx (eVar 1) (eC (.int 0))) (aCons (eBin gIx (eVar 1) (eC (.int 1))) (aCons (eM (eCa gLen (aCons (eBin gIx (eVar 1) (eC (.int 2))) aNil)) viewD) aNil))))) asB)
    (sRet (eM (eC (.bool false)) Ow.d))
    sSkip)
    (sSeq (sFor (eB (aCons (eBin gIx (eVar 0) (eC (.int 3))) (aCons (eBin gIx (eVar 1) (eC (.int 2))) aNil)) zpArg) (gtTup 2 (gtCons (gtName 2) (gtCons (gtName 3) gtNil)))
    (sIf (tNotE (eB (eM (eB (aCons (eVar 2) (aCons (eVar 3) aNil)) (m 28)) viewD) asB))
    (sRet (eM (eC (.bool false)) Ow.d))
    sSkip))
    (sRet (eM (eC (.bool true)) Ow.d)))))) (envOf 2 ds)) := runB_fin _ _ _
theorem run__law_stumps (m : Nat → List PyData → R Ow) (ds : List PyData) : runB 1 (b__law_stumps m) ds = finR (((sSeq (sIf (tOrE (tNotE (eB (eB (eVar 0) (gIsi "list")) asB)) (eB (eBin gNe (eM (eCa gLen (aCons (eVar 0) aNil)) viewD) (eVar 1)) asB))
    (sRet (eM (eC (.bool false)) Ow.d))
    sSkip)
    (sSeq (sFor (eB (eVar 0) itD) (gtName 2)
    (sIf (tNotE (eB (eM (eB (aCons (eVar 2) aNil) (m 23)) viewD) asB))
    (sRet (eM (eC (.bool false)) Ow.d))
    sSkip))
    (sRet (eM (eC (.bool true)) Ow.d))))) (envOf 1 ds)) := runB_fin _ _ _
theorem run_law (m : Nat → List PyData → R Ow) (ds : List PyData) : runB 14 (b_law m) ds = finR (((sSeq (sSet 1 (eB (aCons (eVar 0) (aCons (eC (.int 1000)) aNil)) (m 9)))
    (sSeq (sXSet 2 (xCallK (m 10) 1 (xCons (xP (eBin gPow (eC (.int 10)) (eC (.int 6)))) xNil)))
    (sSeq (sXSet 3 (xCallK (m 19) 1 (xCons (xP (eVar 2)) (xCons (xCallK (m 13) 1 (xCons (xP (eVar 2)) xNil)) xNil))))
    (sSeq (sSet 4 (eM (eM (eB (aCons (eVar 3) aNil) (m 21)) viewD) Ow.d))
    (sSeq (sSet 5 (eM (eM (eCa gLen (aCons (eBin gIx (eVar 3) (eC (.int 2))) aNil)) viewD) Ow.d))
    (sSeq (sSet 6 (eAddO (eLc (eB (eM (eLst (aCons (eC (.int 1)) (aCons (eC (.int 2)) (aCons (eC (.int 3)) (aCons (eC (.int 4)) aNil))))) viewD) itD) (gtName 7) cYes (eB (aCons (eVar 4) (aCons (eVar 7) aNil)) (m 7)) (List.map (·.2) ([("_law_deep", 7)] : List (Str × Nat)))) (eLstO (oCons (eB (aCons (eVar 4) aNil) (m 8)) oNil))))
    (sSeq (sThaw 6 [8] [0, 1, 2, 3, 4, 5, 7, 9, 10, 11, 12, 13, 14] (sFor (eB (eVar 6) itD) (gtName 8)
    (sIf (tNotE (eB (eCallV (m 29) (aCons (eM (eVarO 8) viewD) (aCons (eVar 5) aNil))) asB))
    (sRet (eM (eC (.bool false)) Ow.d))
    sSkip)))
    (sSeq (sThaw 6 [] [0, 1, 2, 3, 4, 5, 7, 10, 11, 12, 13, 14] (sSet 9 (eLc (eB (eVar 6) itD) (gtName 8) cYes (eCa gList (aCons (eB (eVarO 8) shD) aNil)) (List.map (·.2) ([("_law_table", 8)] : List (Str × Nat))))))
    (sSeq (sFor (eB (aCons (eVar 5) aNil) rg1) (gtName 10)
    (sFor (eB (aCons (eC (.int 8)) aNil) rg1) (gtName 11)
    (sSeq (sSet 7 (eM (eM (eBinO gAdd (eC (.int 1)) (eBin gMod (eVar 11) (eC (.int 3)))) viewD) Ow.d))
    (sSeq (sXSet 12 (xCallK (m 27) 1 (xCons (xP (eBin gIx (eVar 3) (eC (.int 0)))) (xCons (xP (eBin gIx (eBin gIx (eBin gIx (eVar 3) (eC (.int 2))) (eVar 10)) (eC (.int 0)))) (xCons (xP (eVar 7)) xNil)))))
    (sSeq (sSet 13 (eM (eM (eB (aCons (eVar 3) (aCons (eVar 10) (aCons (eVar 12) aNil))) (m 25)) viewD) Ow.d))
    (sThaw 6 [8] [0, 1, 2, 3, 4, 5, 7, 9, 10, 11, 12, 13, 14] (sFor (eB (eM (eBinO gAdd (eB (eSl (eVar 6) (eB (eBin gSub (eVar 7) (eC (.int 1))) asI) (eB (eM (eBinO gAdd (eVar 7) (eC (.int 1))) viewD) asI)) shD) (eB (eSl (eVar 6) (eB (eC (.int 4)) asI) oNone) shD)) viewD) itD) (gtName 8)
    (sIf (tNotE (eB (eM (eB (aCons (eBin gIx (eB (eVarO 8) shD) (eVar 10)) (aCons (eVar 13) aNil)) (m 28)) viewD) asB))
    (sRet (eM (eC (.bool false)) Ow.d))
    sSkip))))))))
    (sSeq (sForOwn 6 8 (sSeq (sRevS 8)
    (sApp 8 (eM (eTup (aCons (eC (.str "open")) aNil)) Ow.d))))
    (sSeq (sSet 14 (eM (eM (eBinO gAdd (eB (eLst (aCons (eM (eB (aCons (eVar 4) aNil) (m 8)) viewD) aNil)) shD) (eM (eLc (eB (aCons (eC (.int 4)) aNil) rg1) (gtName 11) cYes (eB (aCons (eVar 4) (aCons (eBin gSub (eC (.int 4)) (eVar 11)) aNil)) (m 7)) (List.map (·.2) ([("_law_k", 11)] : List (Str × Nat)))) viewD)) viewD) Ow.d))
    (sRet (eM (eAnd (eBin gEq (eM (eListRev (eVar 14)) viewD) (eM (eVarO 9) viewD)) (eBin gEq (eVar 4) (eVar 3))) Ow.d)))))))))))))) (envOf 14 ds)) := runB_fin _ _ _
abbrev N_met : List Str := ["one", "other", "a", "b"]
theorem sc_met : FnScope N_met ["one", "other"] (defScope s_met) := ⟨rfl, rfl, rfl, by decide +kernel, rfl, by decide +kernel, by decide +kernel⟩
abbrev N_rows_of : List Str := ["wood", "kind", "told", "rows"]
theorem sc_rows_of : FnScope N_rows_of ["wood", "kind"] (defScope s_rows_of) := ⟨rfl, rfl, rfl, by decide +kernel, rfl, by decide +kernel, by decide +kernel⟩
abbrev N_stump_in : List Str := ["term", "stumps", "part"]
theorem sc_stump_in : FnScope N_stump_in ["term", "stumps"] (defScope s_stump_in) := ⟨rfl, rfl, rfl, by decide +kernel, rfl, by decide +kernel, by decide +kernel⟩
abbrev N_met_of : List Str := ["stumps", "found", "stump"]
theorem sc_met_of : FnScope N_met_of ["stumps"] (defScope s_met_of) := ⟨rfl, rfl, rfl, by decide +kernel, rfl, by decide +kernel, by decide +kernel⟩
abbrev N_first_commons : List Str := ["turning", "found", "kind", "rules", "bare", "row", "rule"]
theorem sc_first_commons : FnScope N_first_commons ["turning"] (defScope s_first_commons) := ⟨rfl, rfl, rfl, by decide +kernel, rfl, by decide +kernel, by decide +kernel⟩
abbrev N_next_commons : List Str := ["turning", "stumps", "found", "mode", "rule"]
theorem sc_next_commons : FnScope N_next_commons ["turning", "stumps"] (defScope s_next_commons) := ⟨rfl, rfl, rfl, by decide +kernel, rfl, by decide +kernel, by decide +kernel⟩
abbrev N_by_levels : List Str := ["turning", "most", "tables", "further"]
theorem sc_by_levels : FnScope N_by_levels ["turning", "most"] (defScope s_by_levels) := ⟨rfl, rfl, rfl, by decide +kernel, rfl, by decide +kernel, by decide +kernel⟩
abbrev N_commons_within : List Str := ["turning", "many"]
theorem sc_commons_within : FnScope N_commons_within ["turning", "many"] (defScope s_commons_within) := ⟨rfl, rfl, rfl, by decide +kernel, rfl, by decide +kernel, by decide +kernel⟩
abbrev N_commons : List Str := ["turning", "found", "further"]
theorem sc_commons : FnScope N_commons ["turning"] (defScope s_commons) := ⟨rfl, rfl, rfl, by decide +kernel, rfl, by decide +kernel, by decide +kernel⟩
abbrev N__law_numbers : List Str := ["_law_script", "_law_most", "_law_found", "_law_cell", "_law_number"]
theorem sc__law_numbers : FnScope N__law_numbers ["_law_script", "_law_most"] (defScope s__law_numbers) := ⟨rfl, rfl, rfl, by decide +kernel, rfl, by decide +kernel, by decide +kernel⟩
abbrev N__law_draw : List Str := ["_law_deck", "_law_most"]
theorem sc__law_draw : FnScope N__law_draw ["_law_deck", "_law_most"] (defScope s__law_draw) := ⟨rfl, rfl, rfl, by decide +kernel, rfl, by decide +kernel, by decide +kernel⟩
abbrev N__law_mark : List Str := ["_law_deck", "_law_number"]
theorem sc__law_mark : FnScope N__law_mark ["_law_deck"] (defScope s__law_mark) := ⟨rfl, rfl, rfl, by decide +kernel, rfl, by decide +kernel, by decide +kernel⟩
abbrev N__law_name : List Str := ["_law_code", "_law_k", "_law_letters", "_law_first", "_law_long", "_law_told", "_law_name_here", "_law_j", "_law_step"]
theorem sc__law_name : FnScope N__law_name ["_law_code", "_law_k"] (defScope s__law_name) := ⟨rfl, rfl, rfl, by decide +kernel, rfl, by decide +kernel, by decide +kernel⟩
abbrev N__law_wood : List Str := ["_law_deck", "_law_code", "_law_count", "_law_apart", "_law_wood_here", "_law_k", "_law_rows_here", "_law_j", "_law_branches", "_law_i"]
theorem sc__law_wood : FnScope N__law_wood ["_law_deck", "_law_code"] (defScope s__law_wood) := ⟨rfl, rfl, rfl, by decide +kernel, rfl, by decide +kernel, by decide +kernel⟩
abbrev N__law_rows : List Str := ["_law_wood_here", "_law_kind", "_law_told", "_law_rows_here"]
theorem sc__law_rows : FnScope N__law_rows ["_law_wood_here", "_law_kind"] (defScope s__law_rows) := ⟨rfl, rfl, rfl, by decide +kernel, rfl, by decide +kernel, by decide +kernel⟩
abbrev N__law_term : List Str := ["_law_deck", "_law_code", "_law_calls_here", "_law_deep", "_law_pick", "_law_parts", "_law_count", "_law_k", "_law_name_here"]
theorem sc__law_term : FnScope N__law_term ["_law_deck", "_law_code", "_law_calls_here", "_law_deep"] (defScope s__law_term) := ⟨rfl, rfl, rfl, by decide +kernel, rfl, by decide +kernel, by decide +kernel⟩
abbrev N__law_changed : List Str := ["_law_deck", "_law_code", "_law_term_here", "_law_calls_here", "_law_pick", "_law_name_here", "_law_parts", "_law_part"]
theorem sc__law_changed : FnScope N__law_changed ["_law_deck", "_law_code", "_law_term_here", "_law_calls_here"] (defScope s__law_changed) := ⟨rfl, rfl, rfl, by decide +kernel, rfl, by decide +kernel, by decide +kernel⟩
abbrev N__law_calls : List Str := ["_law_kinds", "_law_branches", "_law_found", "_law_k", "_law_j"]
theorem sc__law_calls : FnScope N__law_calls ["_law_kinds", "_law_branches"] (defScope s__law_calls) := ⟨rfl, rfl, rfl, by decide +kernel, rfl, by decide +kernel, by decide +kernel⟩
abbrev N__law_rule : List Str := ["_law_deck", "_law_code", "_law_base", "_law_calls_here", "_law_way"]
theorem sc__law_rule : FnScope N__law_rule ["_law_deck", "_law_code", "_law_base", "_law_calls_here"] (defScope s__law_rule) := ⟨rfl, rfl, rfl, by decide +kernel, rfl, by decide +kernel, by decide +kernel⟩
abbrev N__law_turning : List Str := ["_law_deck", "_law_code", "_law_wood_here", "_law_kinds", "_law_k", "_law_modes", "_law_kind", "_law_base", "_law_rules", "_law_name_here", "_law_branches", "_law_start"]
theorem sc__law_turning : FnScope N__law_turning ["_law_deck", "_law_code", "_law_wood_here"] (defScope s__law_turning) := ⟨rfl, rfl, rfl, by decide +kernel, rfl, by decide +kernel, by decide +kernel⟩
abbrev N__law_bare : List Str := ["_law_term_here", "_law_part"]
theorem sc__law_bare : FnScope N__law_bare ["_law_term_here"] (defScope s__law_bare) := ⟨rfl, rfl, rfl, by decide +kernel, rfl, by decide +kernel, by decide +kernel⟩
abbrev N__law_copy : List Str := ["_law_turning_here", "_law_wood_here", "_law_kind", "_law_rows_here", "_law_rules"]
theorem sc__law_copy : FnScope N__law_copy ["_law_turning_here"] (defScope s__law_copy) := ⟨rfl, rfl, rfl, by decide +kernel, rfl, by decide +kernel, by decide +kernel⟩
abbrev N__law_whole : List Str := ["_law_found"]
theorem sc__law_whole : FnScope N__law_whole ["_law_found"] (defScope s__law_whole) := ⟨rfl, rfl, rfl, by decide +kernel, rfl, by decide +kernel, by decide +kernel⟩
abbrev N__law_is_stump : List Str := ["_law_found", "_law_part"]
theorem sc__law_is_stump : FnScope N__law_is_stump ["_law_found"] (defScope s__law_is_stump) := ⟨rfl, rfl, rfl, by decide +kernel, rfl, by decide +kernel, by decide +kernel⟩
abbrev N__law_rule_of : List Str := ["_law_turning_here", "_law_mode", "_law_name_here", "_law_kind", "_law_rules", "_law_row", "_law_rule_here"]
theorem sc__law_rule_of : FnScope N__law_rule_of ["_law_turning_here", "_law_mode", "_law_name_here"] (defScope s__law_rule_of) := ⟨rfl, rfl, rfl, by decide +kernel, rfl, by decide +kernel, by decide +kernel⟩
abbrev N__law_made : List Str := ["_law_turning_here", "_law_mode", "_law_tree_here"]
theorem sc__law_made : FnScope N__law_made ["_law_turning_here", "_law_mode", "_law_tree_here"] (defScope s__law_made) := ⟨rfl, rfl, rfl, by decide +kernel, rfl, by decide +kernel, by decide +kernel⟩
abbrev N__law_made_by : List Str := ["_law_turning_here", "_law_term_here", "_law_tree_here", "_law_parts", "_law_part"]
theorem sc__law_made_by : FnScope N__law_made_by ["_law_turning_here", "_law_term_here", "_law_tree_here"] (defScope s__law_made_by) := ⟨rfl, rfl, rfl, by decide +kernel, rfl, by decide +kernel, by decide +kernel⟩
abbrev N__law_tree : List Str := ["_law_deck", "_law_wood_here", "_law_kind", "_law_deep", "_law_rows_here", "_law_row", "_law_name_here", "_law_branches", "_law_mark_here", "_law_branch"]
theorem sc__law_tree : FnScope N__law_tree ["_law_deck", "_law_wood_here", "_law_kind", "_law_deep"] (defScope s__law_tree) := ⟨rfl, rfl, rfl, by decide +kernel, rfl, by decide +kernel, by decide +kernel⟩
abbrev N__law_begins : List Str := ["_law_stump", "_law_tree_here", "_law_part", "_law_branch"]
theorem sc__law_begins : FnScope N__law_begins ["_law_stump", "_law_tree_here"] (defScope s__law_begins) := ⟨rfl, rfl, rfl, by decide +kernel, rfl, by decide +kernel, by decide +kernel⟩
abbrev N__law_stumps : List Str := ["_law_found", "_law_count", "_law_stump"]
theorem sc__law_stumps : FnScope N__law_stumps ["_law_found", "_law_count"] (defScope s__law_stumps) := ⟨rfl, rfl, rfl, by decide +kernel, rfl, by decide +kernel, by decide +kernel⟩
abbrev N_law : List Str := ["_law_script", "_law_deck", "_law_code", "_law_turning_here", "_law_handed", "_law_count", "_law_tables", "_law_deep", "_law_table", "_law_kept", "_law_mode", "_law_k", "_law_tree_here", "_law_due", "_law_again"]
theorem sc_law : FnScope N_law ["_law_script"] (defScope s_law) := ⟨rfl, rfl, rfl, by decide +kernel, rfl, by decide +kernel, by decide +kernel⟩
structure Txt (K : PySem.W.Frag) (mg : Str → Option Value) (f : Nat → Addr) (fd : Nat → FuncData) : Prop where
  F_met : Fun K "met" "met" s_met (f 0) (fd 0)
  B_met : Binds K (fd 0) ["one", "other"] []
  M_met : mg "met" = some (.ref (f 0))
  F_rows_of : Fun K "rows_of" "rows_of" s_rows_of (f 1) (fd 1)
  B_rows_of : Binds K (fd 1) ["wood", "kind"] []
  M_rows_of : mg "rows_of" = some (.ref (f 1))
  F_stump_in : Fun K "stump_in" "stump_in" s_stump_in (f 2) (fd 2)
  B_stump_in : Binds K (fd 2) ["term", "stumps"] []
  M_stump_in : mg "stump_in" = some (.ref (f 2))
  F_met_of : Fun K "met_of" "met_of" s_met_of (f 3) (fd 3)
  B_met_of : Binds K (fd 3) ["stumps"] []
  M_met_of : mg "met_of" = some (.ref (f 3))
  F_first_commons : Fun K "first_commons" "first_commons" s_first_commons (f 4) (fd 4)
  B_first_commons : Binds K (fd 4) ["turning"] []
  M_first_commons : mg "first_commons" = some (.ref (f 4))
  F_next_commons : Fun K "next_commons" "next_commons" s_next_commons (f 5) (fd 5)
  B_next_commons : Binds K (fd 5) ["turning", "stumps"] []
  M_next_commons : mg "next_commons" = some (.ref (f 5))
  F_by_levels : Fun K "by_levels" "by_levels" s_by_levels (f 6) (fd 6)
  B_by_levels : Binds K (fd 6) ["turning", "most"] []
  M_by_levels : mg "by_levels" = some (.ref (f 6))
  F_commons_within : Fun K "commons_within" "commons_within" s_commons_within (f 7) (fd 7)
  B_commons_within : Binds K (fd 7) ["turning", "many"] []
  M_commons_within : mg "commons_within" = some (.ref (f 7))
  F_commons : Fun K "commons" "commons" s_commons (f 8) (fd 8)
  B_commons : Binds K (fd 8) ["turning"] []
  M_commons : mg "commons" = some (.ref (f 8))
  F__law_numbers : Fun K "_law_numbers" "_law_numbers" s__law_numbers (f 9) (fd 9)
  B__law_numbers : Binds K (fd 9) ["_law_script", "_law_most"] []
  M__law_numbers : mg "_law_numbers" = some (.ref (f 9))
  F__law_draw : Fun K "_law_draw" "_law_draw" s__law_draw (f 10) (fd 10)
  B__law_draw : Binds K (fd 10) ["_law_deck", "_law_most"] []
  M__law_draw : mg "_law_draw" = some (.ref (f 10))
  F__law_mark : Fun K "_law_mark" "_law_mark" s__law_mark (f 11) (fd 11)
  B__law_mark : Binds K (fd 11) ["_law_deck"] []
  M__law_mark : mg "_law_mark" = some (.ref (f 11))
  F__law_name : Fun K "_law_name" "_law_name" s__law_name (f 12) (fd 12)
  B__law_name : Binds K (fd 12) ["_law_code", "_law_k"] []
  M__law_name : mg "_law_name" = some (.ref (f 12))
  F__law_wood : Fun K "_law_wood" "_law_wood" s__law_wood (f 13) (fd 13)
  B__law_wood : Binds K (fd 13) ["_law_deck", "_law_code"] []
  M__law_wood : mg "_law_wood" = some (.ref (f 13))
  F__law_rows : Fun K "_law_rows" "_law_rows" s__law_rows (f 14) (fd 14)
  B__law_rows : Binds K (fd 14) ["_law_wood_here", "_law_kind"] []
  M__law_rows : mg "_law_rows" = some (.ref (f 14))
  F__law_term : Fun K "_law_term" "_law_term" s__law_term (f 15) (fd 15)
  B__law_term : Binds K (fd 15) ["_law_deck", "_law_code", "_law_calls_here", "_law_deep"] []
  M__law_term : mg "_law_term" = some (.ref (f 15))
  F__law_changed : Fun K "_law_changed" "_law_changed" s__law_changed (f 16) (fd 16)
  B__law_changed : Binds K (fd 16) ["_law_deck", "_law_code", "_law_term_here", "_law_calls_here"] []
  M__law_changed : mg "_law_changed" = some (.ref (f 16))
  F__law_calls : Fun K "_law_calls" "_law_calls" s__law_calls (f 17) (fd 17)
  B__law_calls : Binds K (fd 17) ["_law_kinds", "_law_branches"] []
  M__law_calls : mg "_law_calls" = some (.ref (f 17))
  F__law_rule : Fun K "_law_rule" "_law_rule" s__law_rule (f 18) (fd 18)
  B__law_rule : Binds K (fd 18) ["_law_deck", "_law_code", "_law_base", "_law_calls_here"] []
  M__law_rule : mg "_law_rule" = some (.ref (f 18))
  F__law_turning : Fun K "_law_turning" "_law_turning" s__law_turning (f 19) (fd 19)
  B__law_turning : Binds K (fd 19) ["_law_deck", "_law_code", "_law_wood_here"] []
  M__law_turning : mg "_law_turning" = some (.ref (f 19))
  F__law_bare : Fun K "_law_bare" "_law_bare" s__law_bare (f 20) (fd 20)
  B__law_bare : Binds K (fd 20) ["_law_term_here"] []
  M__law_bare : mg "_law_bare" = some (.ref (f 20))
  F__law_copy : Fun K "_law_copy" "_law_copy" s__law_copy (f 21) (fd 21)
  B__law_copy : Binds K (fd 21) ["_law_turning_here"] []
  M__law_copy : mg "_law_copy" = some (.ref (f 21))
  F__law_whole : Fun K "_law_whole" "_law_whole" s__law_whole (f 22) (fd 22)
  B__law_whole : Binds K (fd 22) ["_law_found"] []
  M__law_whole : mg "_law_whole" = some (.ref (f 22))
  F__law_is_stump : Fun K "_law_is_stump" "_law_is_stump" s__law_is_stump (f 23) (fd 23)
  B__law_is_stump : Binds K (fd 23) ["_law_found"] []
  M__law_is_stump : mg "_law_is_stump" = some (.ref (f 23))
  F__law_rule_of : Fun K "_law_rule_of" "_law_rule_of" s__law_rule_of (f 24) (fd 24)
  B__law_rule_of : Binds K (fd 24) ["_law_turning_here", "_law_mode", "_law_name_here"] []
  M__law_rule_of : mg "_law_rule_of" = some (.ref (f 24))
  F__law_made : Fun K "_law_made" "_law_made" s__law_made (f 25) (fd 25)
  B__law_made : Binds K (fd 25) ["_law_turning_here", "_law_mode", "_law_tree_here"] []
  M__law_made : mg "_law_made" = some (.ref (f 25))
  F__law_made_by : Fun K "_law_made_by" "_law_made_by" s__law_made_by (f 26) (fd 26)
  B__law_made_by : Binds K (fd 26) ["_law_turning_here", "_law_term_here", "_law_tree_here"] []
  M__law_made_by : mg "_law_made_by" = some (.ref (f 26))
  F__law_tree : Fun K "_law_tree" "_law_tree" s__law_tree (f 27) (fd 27)
  B__law_tree : Binds K (fd 27) ["_law_deck", "_law_wood_here", "_law_kind", "_law_deep"] []
  M__law_tree : mg "_law_tree" = some (.ref (f 27))
  F__law_begins : Fun K "_law_begins" "_law_begins" s__law_begins (f 28) (fd 28)
  B__law_begins : Binds K (fd 28) ["_law_stump", "_law_tree_here"] []
  M__law_begins : mg "_law_begins" = some (.ref (f 28))
  F__law_stumps : Fun K "_law_stumps" "_law_stumps" s__law_stumps (f 29) (fd 29)
  B__law_stumps : Binds K (fd 29) ["_law_found", "_law_count"] []
  M__law_stumps : mg "_law_stumps" = some (.ref (f 29))
  F_law : Fun K "law" "law" s_law (f 30) (fd 30)
  B_law : Binds K (fd 30) ["_law_script"] []
  M_law : mg "law" = some (.ref (f 30))
  z_bool : mg "bool" = none
  z_int : mg "int" = none
  z_isinstance : mg "isinstance" = none
  z_len : mg "len" = none
  z_list : mg "list" = none
  z_range : mg "range" = none
  z_reversed : mg "reversed" = none
  z_sorted : mg "sorted" = none
  z_str : mg "str" = none
  z_sum : mg "sum" = none
  z_tuple : mg "tuple" = none
  z_zip : mg "zip" = none
structure Fns (P : Program) (w : World) (K : PySem.W.Frag) (mg : Str → Option Value) (base : Heap) (f : Nat → Addr) (fd : Nat → FuncData) (n : Nat) : Prop where
  g_met : FnOk P w K mg base (L2.CX P w) n (f 0) (fd 0) ["one", "other"] (spM ⟨K, w⟩ mg 2 (mir n 0))
  g_rows_of : FnOk P w K mg base (L2.CX P w) n (f 1) (fd 1) ["wood", "kind"] (spM ⟨K, w⟩ mg 2 (mir n 1))
  g_stump_in : FnOk P w K mg base (L2.CX P w) n (f 2) (fd 2) ["term", "stumps"] (spM ⟨K, w⟩ mg 2 (mir n 2))
  g_met_of : FnOk P w K mg base (L2.CX P w) n (f 3) (fd 3) ["stumps"] (spM ⟨K, w⟩ mg 1 (mir n 3))
  g_first_commons : FnOk P w K mg base (L2.CX P w) n (f 4) (fd 4) ["turning"] (spM ⟨K, w⟩ mg 1 (mir n 4))
  g_next_commons : FnOk P w K mg base (L2.CX P w) n (f 5) (fd 5) ["turning", "stumps"] (spM ⟨K, w⟩ mg 2 (mir n 5))
  g_by_levels : FnOk P w K mg base (L2.CX P w) n (f 6) (fd 6) ["turning", "most"] (spM ⟨K, w⟩ mg 2 (mir n 6))
  g_commons_within : FnOk P w K mg base (L2.CX P w) n (f 7) (fd 7) ["turning", "many"] (spM ⟨K, w⟩ mg 2 (mir n 7))
  g_commons : FnOk P w K mg base (L2.CX P w) n (f 8) (fd 8) ["turning"] (spM ⟨K, w⟩ mg 1 (mir n 8))
  g__law_numbers : FnOk P w K mg base (L2.CX P w) n (f 9) (fd 9) ["_law_script", "_law_most"] (spM ⟨K, w⟩ mg 2 (mir n 9))
  g__law_draw : FnOk P w K mg base (L2.CX P w) n (f 10) (fd 10) ["_law_deck", "_law_most"] (spK ⟨K, w⟩ 1 (mir n 10))
  g__law_mark : FnOk P w K mg base (L2.CX P w) n (f 11) (fd 11) ["_law_deck"] (spK ⟨K, w⟩ 0 (mir n 11))
  g__law_name : FnOk P w K mg base (L2.CX P w) n (f 12) (fd 12) ["_law_code", "_law_k"] (spM ⟨K, w⟩ mg 2 (mir n 12))
  g__law_wood : FnOk P w K mg base (L2.CX P w) n (f 13) (fd 13) ["_law_deck", "_law_code"] (spK ⟨K, w⟩ 1 (mir n 13))
  g__law_rows : FnOk P w K mg base (L2.CX P w) n (f 14) (fd 14) ["_law_wood_here", "_law_kind"] (spM ⟨K, w⟩ mg 2 (mir n 14))
  g__law_term : FnOk P w K mg base (L2.CX P w) n (f 15) (fd 15) ["_law_deck", "_law_code", "_law_calls_here", "_law_deep"] (spK ⟨K, w⟩ 3 (mir n 15))
  g__law_changed : FnOk P w K mg base (L2.CX P w) n (f 16) (fd 16) ["_law_deck", "_law_code", "_law_term_here", "_law_calls_here"] (spK ⟨K, w⟩ 3 (mir n 16))
  g__law_calls : FnOk P w K mg base (L2.CX P w) n (f 17) (fd 17) ["_law_kinds", "_law_branches"] (spM ⟨K, w⟩ mg 2 (mir n 17))
  g__law_rule : FnOk P w K mg base (L2.CX P w) n (f 18) (fd 18) ["_law_deck", "_law_code", "_law_base", "_law_calls_here"] (spK ⟨K, w⟩ 3 (mir n 18))
  g__law_turning : FnOk P w K mg base (L2.CX P w) n (f 19) (fd 19) ["_law_deck", "_law_code", "_law_wood_here"] (spK ⟨K, w⟩ 2 (mir n 19))
  g__law_bare : FnOk P w K mg base (L2.CX P w) n (f 20) (fd 20) ["_law_term_here"] (spM ⟨K, w⟩ mg 1 (mir n 20))
  g__law_copy : FnOk P w K mg base (L2.CX P w) n (f 21) (fd 21) ["_law_turning_here"] (spM ⟨K, w⟩ mg 1 (mir n 21))
  g__law_whole : FnOk P w K mg base (L2.CX P w) n (f 22) (fd 22) ["_law_found"] (spM ⟨K, w⟩ mg 1 (mir n 22))
  g__law_is_stump : FnOk P w K mg base (L2.CX P w) n (f 23) (fd 23) ["_law_found"] (spM ⟨K, w⟩ mg 1 (mir n 23))
  g__law_rule_of : FnOk P w K mg base (L2.CX P w) n (f 24) (fd 24) ["_law_turning_here", "_law_mode", "_law_name_here"] (spM ⟨K, w⟩ mg 3 (mir n 24))
  g__law_made : FnOk P w K mg base (L2.CX P w) n (f 25) (fd 25) ["_law_turning_here", "_law_mode", "_law_tree_here"] (spM ⟨K, w⟩ mg 3 (mir n 25))
  g__law_made_by : FnOk P w K mg base (L2.CX P w) n (f 26) (fd 26) ["_law_turning_here", "_law_term_here", "_law_tree_here"] (spM ⟨K, w⟩ mg 3 (mir n 26))
  g__law_tree : FnOk P w K mg base (L2.CX P w) n (f 27) (fd 27) ["_law_deck", "_law_wood_here", "_law_kind", "_law_deep"] (spK ⟨K, w⟩ 3 (mir n 27))
  g__law_begins : FnOk P w K mg base (L2.CX P w) n (f 28) (fd 28) ["_law_stump", "_law_tree_here"] (spM ⟨K, w⟩ mg 2 (mir n 28))
  g__law_stumps : FnOk P w K mg base (L2.CX P w) n (f 29) (fd 29) ["_law_found", "_law_count"] (spM ⟨K, w⟩ mg 2 (mir n 29))
  g_law : FnOk P w K mg base (L2.CX P w) n (f 30) (fd 30) ["_law_script"] (spM ⟨K, w⟩ mg 1 (mir n 30))
section
variable {P : Program} {w : World} {K : PySem.W.Frag} {mg : Str → Option Value} {base : Heap} {f : Nat → Addr} {fd : Nat → FuncData} {n : Nat}
theorem ok_met (T : Txt K mg f fd) (G : Fns P w K mg base f fd n) : FnOk P w K mg base (L2.CX P w) (n + 1) (f 0) (fd 0) ["one", "other"] (spM ⟨K, w⟩ mg 2 (mir (n + 1) 0)) :=
  mk_fn (l := 2) (fb := b_met (mir n)) T.F_met sc_met rfl (fun _ => rfl) fun cdv A outer s H E hr =>
    (dss_cons (ds_if (dt_dw (dw_or (dt_eq (room_eq hr) (dv_df (df_ix (dl_df (df_var 0)) (dv_df df_int))) (dv_df df_str)) (dw_or1 (dt_eq (room_eq hr) (dv_df (df_ix (dl_df (df_var 1)) (dv_df df_int))) (dv_df df_str)))))
    (dss_one (ds_ret (de_df (df_tup (da_cons df_str da_nil)))))
    dss_nil)
    (dss_cons (ds_if (dt_dw (dw_or (dt_ne (room_eq hr) (dv_df (df_ix (dl_df (df_var 0)) (dv_df df_int))) (dv_df (df_ix (dl_df (df_var 1)) (dv_df df_int)))) (dw_or (dt_ne (room_eq hr) (dv_df (df_ix (dl_df (df_var 0)) (dv_df df_int))) (dv_df (df_ix (dl_df (df_var 1)) (dv_df df_int)))) (dw_or1 (dt_ne (room_eq hr) (dv_de (de_len rfl T.z_len (dal_cons (dl_df (df_ix (dl_df (df_var 0)) (dv_df df_int))) dal_nil))) (dv_de (de_len rfl T.z_len (dal_cons (dl_df (df_ix (dl_df (df_var 1)) (dv_df df_int))) dal_nil))))))))
    (dss_one (ds_ret (de_df (df_tup (da_cons df_str da_nil)))))
    dss_nil)
    (dss_one (ds_ret (de_df (df_tup (da_cons df_str (da_cons (df_ix (dl_df (df_var 0)) (dv_df df_int)) (da_cons (df_ix (dl_df (df_var 0)) (dv_df df_int)) (da_cons (df_de (de_tuple rfl T.z_tuple (dal_cons (dl_de (de_lc (own := [("a", 2), ("b", 3)]) (ix := [2, 3]) rfl sc_met.nd (di_zip rfl T.z_zip (da_cons (df_ix (dl_df (df_var 0)) (dv_df df_int)) (da_cons (df_ix (dl_df (df_var 1)) (dv_df df_int)) da_nil))) (blkOk_by (N := N_met) (sc := defScope s_met) (by decide +kernel)) (fun _ _ _ _ _ => (dg_tup (n := 2) rfl (dgs_cons (dg_name 2 sc_met.nd) (dgs_cons (dg_name 3 sc_met.nd) dgs_nil)))) (fun _ _ _ _ _ => dts_nil) (fun _ _ _ _ _ => (de_call G.g_met takes0 hr rfl T.M_met T.F_met.kp T.B_met (da_cons (df_var 2) (da_cons (df_var 3) da_nil)) (aCons_len (aCons_len (fun _ _ h => aNil_len h))))))) dal_nil))) da_nil))))))))))
theorem ok_rows_of (T : Txt K mg f fd) (G : Fns P w K mg base f fd n) : FnOk P w K mg base (L2.CX P w) (n + 1) (f 1) (fd 1) ["wood", "kind"] (spM ⟨K, w⟩ mg 2 (mir (n + 1) 1)) :=
  mk_fn (l := 2) (fb := b_rows_of (mir n)) T.F_rows_of sc_rows_of rfl (fun _ => rfl) fun cdv A outer s H E hr =>
    (dss_cons (ds_for (ix := [2, 3]) (passes_of rfl) rfl (di_seq (df_var 0)) (dg_tup (n := 2) rfl (dgs_cons (dg_name 2 sc_rows_of.nd) (dgs_cons (dg_name 3 sc_rows_of.nd) dgs_nil)))
    (dss_one (ds_if (dt_eq (room_eq hr) (dv_df (df_var 2)) (dv_df (df_var 1)))
    (dss_one (ds_ret (de_df (df_var 3))))
    dss_nil)))
    (dss_one (ds_ret (de_lst da_nil))))
theorem ok_stump_in (T : Txt K mg f fd) (G : Fns P w K mg base f fd n) : FnOk P w K mg base (L2.CX P w) (n + 1) (f 2) (fd 2) ["term", "stumps"] (spM ⟨K, w⟩ mg 2 (mir (n + 1) 2)) :=
  mk_fn (l := 1) (fb := b_stump_in (mir n)) T.F_stump_in sc_stump_in rfl (fun _ => rfl) fun cdv A outer s H E hr =>
    (dss_cons (ds_if (dt_eq (room_eq hr) (dv_df (df_ix (dl_df (df_var 0)) (dv_df df_int))) (dv_df df_str))
    (dss_one (ds_ret (de_df (df_ix (dl_df (df_var 1)) (dv_df (df_ix (dl_df (df_var 0)) (dv_df df_int)))))))
    dss_nil)
    (dss_cons (ds_if (dt_val (dv_df (df_ix (dl_df (df_var 0)) (dv_df df_int))))
    (dss_one (ds_ret (de_df (df_tup (da_cons df_str da_nil)))))
    dss_nil)
    (dss_one (ds_ret (de_df (df_tup (da_cons df_str (da_cons (df_ix (dl_df (df_var 0)) (dv_df df_int)) (da_cons (df_ix (dl_df (df_var 0)) (dv_df df_int)) (da_cons (df_de (de_tuple rfl T.z_tuple (dal_cons (dl_de (de_lc (own := [("part", 2)]) (ix := [2]) rfl sc_stump_in.nd (di_seq (df_ix (dl_df (df_var 0)) (dv_df df_int))) (blkOk_by (N := N_stump_in) (sc := defScope s_stump_in) (by decide +kernel)) (fun _ _ _ _ _ => (dg_name 2 sc_stump_in.nd)) (fun _ _ _ _ _ => dts_nil) (fun _ _ _ _ _ => (de_call G.g_stump_in takes0 hr rfl T.M_stump_in T.F_stump_in.kp T.B_stump_in (da_cons (df_var 2) (da_cons (df_var 1) da_nil)) (aCons_len (aCons_len (fun _ _ h => aNil_len h))))))) dal_nil))) da_nil))))))))))
theorem ok_met_of (T : Txt K mg f fd) (G : Fns P w K mg base f fd n) : FnOk P w K mg base (L2.CX P w) (n + 1) (f 3) (fd 3) ["stumps"] (spM ⟨K, w⟩ mg 1 (mir (n + 1) 3)) :=
  mk_fn (l := 2) (fb := b_met_of (mir n)) T.F_met_of sc_met_of rfl (fun _ => rfl) fun cdv A outer s H E hr =>
    (dss_cons (ds_set 1 sc_met_of.nd (de_df (df_ix (dl_df (df_var 0)) (dv_df df_int))))
    (dss_cons (ds_for (ix := [2]) (passes_of rfl) rfl (di_seq (df_de (de_slice (dl_df (df_var 0)) (do_some (dv_df df_int)) do_none))) (dg_name 2 sc_met_of.nd)
    (dss_one (ds_set 1 sc_met_of.nd (de_df (df_de (de_call G.g_met (takes_of rfl rfl rfl rfl) hr rfl T.M_met T.F_met.kp T.B_met (da_cons (df_var 1) (da_cons (df_var 2) da_nil)) (aCons_len (aCons_len (fun _ _ h => aNil_len h)))))))))
    (dss_one (ds_ret (de_df (df_var 1))))))
theorem ok_first_commons (T : Txt K mg f fd) (G : Fns P w K mg base f fd n) : FnOk P w K mg base (L2.CX P w) (n + 1) (f 4) (fd 4) ["turning"] (spM ⟨K, w⟩ mg 1 (mir (n + 1) 4)) :=
  mk_fn (l := 6) (fb := b_first_commons (mir n)) T.F_first_commons sc_first_commons rfl (fun _ => rfl) fun cdv A outer s H E hr =>
    (dss_cons (ds_set 1 sc_first_commons.nd (de_lst da_nil))
    (dss_cons (ds_for (ix := [2, 3]) (passes_of rfl) rfl (di_seq (df_ix (dl_df (df_var 0)) (dv_df df_int))) (dg_tup (n := 2) rfl (dgs_cons (dg_name 2 sc_first_commons.nd) (dgs_cons (dg_name 3 sc_first_commons.nd) dgs_nil)))
    (dss_cons (ds_set 4 sc_first_commons.nd (de_lst da_nil))
    (dss_cons (ds_for (ix := [5, 6]) (passes_of rfl) rfl (di_zip rfl T.z_zip (da_cons (df_de (de_call G.g_rows_of (takes_of rfl rfl rfl rfl) hr rfl T.M_rows_of T.F_rows_of.kp T.B_rows_of (da_cons (df_ix (dl_df (df_var 0)) (dv_df df_int)) (da_cons (df_var 2) da_nil)) (aCons_len (aCons_len (fun _ _ h => aNil_len h))))) (da_cons (df_var 3) da_nil))) (dg_tup (n := 2) rfl (dgs_cons (dg_name 5 sc_first_commons.nd) (dgs_cons (dg_name 6 sc_first_commons.nd) dgs_nil)))
    (dss_one (ds_if (dt_eq (room_eq hr) (dv_df (df_ix (dl_df (df_var 5)) (dv_df df_int))) (dv_df (df_tup da_nil)))
    (dss_one (ds_app 4 (de_call G.g_stump_in (takes_of rfl rfl rfl rfl) hr rfl T.M_stump_in T.F_stump_in.kp T.B_stump_in (da_cons (df_var 6) (da_cons (df_de (de_lst da_nil)) da_nil)) (aCons_len (aCons_len (fun _ _ h => aNil_len h))))))
    dss_nil)))
    (dss_one (ds_frz 4 (ds_app 1 (de_call G.g_met_of (takes_of rfl rfl rfl rfl) hr rfl T.M_met_of T.F_met_of.kp T.B_met_of (da_cons (df_var 4) da_nil) (aCons_len (fun _ _ h => aNil_len h)))))))))
    (dss_one (ds_retV 1))))
theorem ok_next_commons (T : Txt K mg f fd) (G : Fns P w K mg base f fd n) : FnOk P w K mg base (L2.CX P w) (n + 1) (f 5) (fd 5) ["turning", "stumps"] (spM ⟨K, w⟩ mg 2 (mir (n + 1) 5)) :=
  mk_fn (l := 3) (fb := b_next_commons (mir n)) T.F_next_commons sc_next_commons rfl (fun _ => rfl) fun cdv A outer s H E hr =>
    (dss_cons (ds_set 2 sc_next_commons.nd (de_lst da_nil))
    (dss_cons (ds_for (ix := [3]) (passes_of rfl) rfl (di_seq (df_ix (dl_df (df_var 0)) (dv_df df_int))) (dg_name 3 sc_next_commons.nd)
    (dss_one (ds_app 2 (de_call G.g_met_of (takes_of rfl rfl rfl rfl) hr rfl T.M_met_of T.F_met_of.kp T.B_met_of (da_cons (df_de (de_lc (own := [("rule", 4)]) (ix := [4]) rfl sc_next_commons.nd (di_seq (df_ix (dl_df (df_var 3)) (dv_df df_int))) (blkOk_by (N := N_next_commons) (sc := defScope s_next_commons) (by decide +kernel)) (fun _ _ _ _ _ => (dg_name 4 sc_next_commons.nd)) (fun _ _ _ _ _ => dts_nil) (fun _ _ _ _ _ => (de_call G.g_stump_in takes0 hr rfl T.M_stump_in T.F_stump_in.kp T.B_stump_in (da_cons (df_var 4) (da_cons (df_var 1) da_nil)) (aCons_len (aCons_len (fun _ _ h => aNil_len h))))))) da_nil) (aCons_len (fun _ _ h => aNil_len h))))))
    (dss_one (ds_retV 2))))
theorem ok_by_levels (T : Txt K mg f fd) (G : Fns P w K mg base f fd n) : FnOk P w K mg base (L2.CX P w) (n + 1) (f 6) (fd 6) ["turning", "most"] (spM ⟨K, w⟩ mg 2 (mir (n + 1) 6)) :=
  mk_fn (l := 2) (fb := b_by_levels (mir n)) T.F_by_levels sc_by_levels rfl (fun _ => rfl) fun cdv A outer s H E hr =>
    (dss_cons (ds_set 2 sc_by_levels.nd (de_lst (da_cons (df_de (de_call G.g_first_commons (takes_of rfl rfl rfl rfl) hr rfl T.M_first_commons T.F_first_commons.kp T.B_first_commons (da_cons (df_var 0) da_nil) (aCons_len (fun _ _ h => aNil_len h)))) da_nil)))
    (dss_cons (ds_while 1000000 (passes_of rfl) (dt_lt (dv_de (de_len rfl T.z_len (dal_cons (dl_dp (dp_var 2)) dal_nil))) (dv_df (df_var 1)))
    (dss_cons (ds_set 3 sc_by_levels.nd (de_df (df_de (de_call G.g_next_commons (takes_of rfl rfl rfl rfl) hr rfl T.M_next_commons T.F_next_commons.kp T.B_next_commons (da_cons (df_var 0) (da_cons (df_ix (dl_dp (dp_var 2)) (dv_df (df_neg (dv_df df_int)))) da_nil)) (aCons_len (aCons_len (fun _ _ h => aNil_len h)))))))
    (dss_cons (ds_if (dt_eq (room_eq hr) (dv_df (df_var 3)) (dv_df (df_ix (dl_dp (dp_var 2)) (dv_df (df_neg (dv_df df_int))))))
    (dss_one (ds_retV 2))
    dss_nil)
    (dss_one (ds_app 2 (de_df (df_var 3)))))))
    (dss_one (ds_retV 2))))
theorem ok_commons_within (T : Txt K mg f fd) (G : Fns P w K mg base f fd n) : FnOk P w K mg base (L2.CX P w) (n + 1) (f 7) (fd 7) ["turning", "many"] (spM ⟨K, w⟩ mg 2 (mir (n + 1) 7)) :=
  mk_fn (l := 0) (fb := b_commons_within (mir n)) T.F_commons_within sc_commons_within rfl (fun _ => rfl) fun cdv A outer s H E hr =>
    (dss_one (ds_ret (de_list rfl T.z_list (dal_cons (dl_df (df_ix (dl_de (de_call G.g_by_levels (takes_of rfl rfl rfl rfl) hr rfl T.M_by_levels T.F_by_levels.kp T.B_by_levels (da_cons (df_var 0) (da_cons (df_var 1) da_nil)) (aCons_len (aCons_len (fun _ _ h => aNil_len h))))) (dv_df (df_neg (dv_df df_int))))) dal_nil))))
theorem ok_commons (T : Txt K mg f fd) (G : Fns P w K mg base f fd n) : FnOk P w K mg base (L2.CX P w) (n + 1) (f 8) (fd 8) ["turning"] (spM ⟨K, w⟩ mg 1 (mir (n + 1) 8)) :=
  mk_fn (l := 2) (fb := b_commons (mir n)) T.F_commons sc_commons rfl (fun _ => rfl) fun cdv A outer s H E hr =>
    (dss_cons (ds_set 1 sc_commons.nd (de_call G.g_first_commons (takes_of rfl rfl rfl rfl) hr rfl T.M_first_commons T.F_first_commons.kp T.B_first_commons (da_cons (df_var 0) da_nil) (aCons_len (fun _ _ h => aNil_len h))))
    (dss_cons (ds_thaw 1 [] [0] (ds_set 2 sc_commons.nd (de_call G.g_next_commons (takes_of rfl rfl rfl rfl) hr rfl T.M_next_commons T.F_next_commons.kp T.B_next_commons (da_cons (df_var 0) (da_cons (df_var 1) da_nil)) (aCons_len (aCons_len (fun _ _ h => aNil_len h))))))
    (dss_cons (ds_while 1000000 (passes_of rfl) (dt_ne (room_eq hr) (dv_dp (dp_var 2)) (dv_dp (dp_var 1)))
    (dss_cons (ds_move 1 2 sc_commons.nd)
    (dss_one (ds_thaw 1 [] [0] (ds_set 2 sc_commons.nd (de_call G.g_next_commons (takes_of rfl rfl rfl rfl) hr rfl T.M_next_commons T.F_next_commons.kp T.B_next_commons (da_cons (df_var 0) (da_cons (df_var 1) da_nil)) (aCons_len (aCons_len (fun _ _ h => aNil_len h)))))))))
    (dss_one (ds_retV 1)))))
theorem ok__law_numbers (T : Txt K mg f fd) (G : Fns P w K mg base f fd n) : FnOk P w K mg base (L2.CX P w) (n + 1) (f 9) (fd 9) ["_law_script", "_law_most"] (spM ⟨K, w⟩ mg 2 (mir (n + 1) 9)) :=
  mk_fn (l := 3) (fb := b__law_numbers (mir n)) T.F__law_numbers sc__law_numbers rfl (fun _ => rfl) fun cdv A outer s H E hr =>
    (dss_cons (ds_setLc 2 (own := [("_law_cell", 3)]) (ix := [3]) rfl sc__law_numbers.nd (di_seq (df_de (de_slice (dl_df (df_var 0)) do_none (do_some (dv_df (df_var 1)))))) (blkOk_by (N := N__law_numbers) (sc := defScope s__law_numbers) (by decide +kernel)) (fun _ _ _ _ _ => (dg_name 3 sc__law_numbers.nd)) (fun _ _ _ _ _ => dts_nil) (fun _ _ _ _ _ => (de_df (df_mod (dv_df (df_var 3)) (dv_df (df_pow (dv_df df_int) (dv_df df_int)))))))
    (dss_cons (ds_set 4 sc__law_numbers.nd (de_df (df_de (de_add (dl_df df_int) (dl_df (df_mod (dv_de (de_sum rfl rfl T.z_sum (dal_cons (dl_dp (dp_var 2)) dal_nil))) (dv_df df_int)))))))
    (dss_cons (ds_while 1000000 (passes_of rfl) (dt_lt (dv_de (de_len rfl T.z_len (dal_cons (dl_dp (dp_var 2)) dal_nil))) (dv_df (df_var 1)))
    (dss_cons (ds_set 4 sc__law_numbers.nd (de_df (df_mod (dv_de (de_add (dl_de (de_add (dl_df (df_mul (dv_df (df_var 4)) (dv_df (df_var 4)))) (dl_df (df_mul (dv_df df_int) (dv_df (df_var 4)))))) (dl_de (de_len rfl T.z_len (dal_cons (dl_dp (dp_var 2)) dal_nil))))) (dv_df df_int))))
    (dss_one (ds_app 2 (de_df (df_var 4))))))
    (dss_one (ds_ret (de_listRev rfl rfl T.z_list rfl T.z_reversed (dl_dp (dp_var 2))))))))
theorem ok__law_draw (T : Txt K mg f fd) (G : Fns P w K mg base f fd n) : FnOk P w K mg base (L2.CX P w) (n + 1) (f 10) (fd 10) ["_law_deck", "_law_most"] (spK ⟨K, w⟩ 1 (mir (n + 1) 10)) :=
  mk_fnK (l := 0) (fb := b__law_draw (mir n)) T.F__law_draw sc__law_draw rfl rfl (fun _ => rfl) fun cdv A outer s H E hr =>
    (dss_cons (ds_if (dt_eq (room_eq hr) (dv_dp (dp_var 0)) (dv_de (de_lst da_nil)))
    (dss_one (ds_ret (de_df df_int)))
    dss_nil)
    (dss_one (ds_xret (xf_mod (xf_pop 0) (xf_df (df_var 1))))))
theorem ok__law_mark (T : Txt K mg f fd) (G : Fns P w K mg base f fd n) : FnOk P w K mg base (L2.CX P w) (n + 1) (f 11) (fd 11) ["_law_deck"] (spK ⟨K, w⟩ 0 (mir (n + 1) 11)) :=
  mk_fnK (l := 1) (fb := b__law_mark (mir n)) T.F__law_mark sc__law_mark rfl rfl (fun _ => rfl) fun cdv A outer s H E hr =>
    (dss_cons (ds_xset 1 sc__law_mark.nd (xf_callK 0 G.g__law_draw takes0 hr rfl T.M__law_draw T.F__law_draw.kp T.B__law_draw (xa_cons (xf_df (df_pow (dv_df df_int) (dv_df df_int))) xa_nil) (xCons_len (fun _ _ _ h => xNil_len h))))
    (dss_cons (ds_if (dt_eq (room_eq hr) (dv_df (df_mod (dv_df (df_var 1)) (dv_df df_int))) (dv_df df_int))
    (dss_one (ds_ret (de_df (df_sub (dv_df (df_mod (dv_df (df_div (dv_df (df_var 1)) (dv_df df_int))) (dv_de (de_add (dl_df (df_mul (dv_df df_int) (dv_df (df_pow (dv_df df_int) (dv_df df_int))))) (dl_df df_int))))) (dv_df (df_pow (dv_df df_int) (dv_df df_int)))))))
    dss_nil)
    (dss_one (ds_ret (de_df (df_div (dv_df (df_mod (dv_df (df_div (dv_df (df_var 1)) (dv_df df_int))) (dv_df df_int))) (dv_df df_int)))))))
theorem ok__law_name (T : Txt K mg f fd) (G : Fns P w K mg base f fd n) : FnOk P w K mg base (L2.CX P w) (n + 1) (f 12) (fd 12) ["_law_code", "_law_k"] (spM ⟨K, w⟩ mg 2 (mir (n + 1) 12)) :=
  mk_fn (l := 7) (fb := b__law_name (mir n)) T.F__law_name sc__law_name rfl (fun _ => rfl) fun cdv A outer s H E hr =>
    (dss_cons (ds_set 2 sc__law_name.nd (de_df df_str))
    (dss_cons (ds_set 3 sc__law_name.nd (de_df (df_mod (dv_df (df_div (dv_df (df_var 0)) (dv_df df_int))) (dv_df df_int))))
    (dss_cons (ds_if (dt_eq (room_eq hr) (dv_df (df_mod (dv_df (df_div (dv_df (df_var 0)) (dv_df df_int))) (dv_df df_int))) (dv_df df_int))
    (dss_one (ds_ret (de_df (df_mulS (dv_df (df_ix (dl_df (df_var 2)) (dv_df (df_mod (dv_de (de_add (dl_df (df_var 3)) (dl_df (df_div (dv_df (df_var 1)) (dv_df df_int))))) (dv_df df_int))))) (dv_de (de_add (dl_df df_int) (dl_df (df_mod (dv_df (df_var 1)) (dv_df df_int)))))))))
    dss_nil)
    (dss_cons (ds_set 4 sc__law_name.nd (de_df (df_de (de_add (dl_df df_int) (dl_df (df_mod (dv_df (df_var 0)) (dv_df df_int)))))))
    (dss_cons (ds_set 5 sc__law_name.nd (de_df (df_mod (dv_df (df_div (dv_df (df_var 0)) (dv_df df_int))) (dv_df (df_var 4)))))
    (dss_cons (ds_set 6 sc__law_name.nd (de_df df_str))
    (dss_cons (ds_for (ix := [7]) (passes_of rfl) rfl (di_range1 rfl T.z_range (da_cons (df_var 4) da_nil)) (dg_name 7 sc__law_name.nd)
    (dss_cons (ds_set 8 sc__law_name.nd (de_df (df_mul (dv_df (df_mod (dv_df (df_div (dv_df (df_var 0)) (dv_df df_int))) (dv_df df_int))) (dv_df (df_var 7)))))
    (dss_cons (ds_if (dt_eq (room_eq hr) (dv_df (df_var 7)) (dv_df (df_var 5)))
    (dss_one (ds_set 8 sc__law_name.nd (de_df (df_de (de_add (dl_df (df_var 8)) (dl_df (df_var 1)))))))
    dss_nil)
    (dss_one (ds_set 6 sc__law_name.nd (de_df (df_de (de_add (dl_df (df_var 6)) (dl_df (df_ix (dl_df (df_var 2)) (dv_df (df_mod (dv_de (de_add (dl_df (df_var 3)) (dl_df (df_var 8)))) (dv_df df_int)))))))))))))
    (dss_one (ds_ret (de_df (df_var 6)))))))))))
theorem ok__law_wood (T : Txt K mg f fd) (G : Fns P w K mg base f fd n) : FnOk P w K mg base (L2.CX P w) (n + 1) (f 13) (fd 13) ["_law_deck", "_law_code"] (spK ⟨K, w⟩ 1 (mir (n + 1) 13)) :=
  mk_fnK (l := 8) (fb := b__law_wood (mir n)) T.F__law_wood sc__law_wood rfl rfl (fun _ => rfl) fun cdv A outer s H E hr =>
    (dss_cons (ds_xset 2 sc__law_wood.nd (xf_add_int (xf_df df_int) (xf_callK 0 G.g__law_draw takes0 hr rfl T.M__law_draw T.F__law_draw.kp T.B__law_draw (xa_cons (xf_df df_int) xa_nil) (xCons_len (fun _ _ _ h => xNil_len h)))))
    (dss_cons (ds_xset 3 sc__law_wood.nd (xf_mul (xf_callK 0 G.g__law_draw takes0 hr rfl T.M__law_draw T.F__law_draw.kp T.B__law_draw (xa_cons (xf_df df_int) xa_nil) (xCons_len (fun _ _ _ h => xNil_len h))) (xf_df df_int)))
    (dss_cons (ds_set 4 sc__law_wood.nd (de_lst da_nil))
    (dss_cons (ds_for (ix := [5]) (passes_of rfl) rfl (di_range1 rfl T.z_range (da_cons (df_var 2) da_nil)) (dg_name 5 sc__law_wood.nd)
    (dss_cons (ds_set 6 sc__law_wood.nd (de_lst (da_cons (df_tup (da_cons (df_de (de_call G.g__law_name (takes_of rfl rfl rfl rfl) hr rfl T.M__law_name T.F__law_name.kp T.B__law_name (da_cons (df_var 1) (da_cons (df_de (de_add (dl_df df_int) (dl_df (df_mul (dv_df (df_var 3)) (dv_df (df_var 5)))))) da_nil)) (aCons_len (aCons_len (fun _ _ h => aNil_len h))))) (da_cons (df_tup da_nil) da_nil))) da_nil)))
    (dss_cons (ds_xfor (ix := [7]) (passes_of rfl) rfl (xi_range1 rfl T.z_range (xa_cons (xf_callK 0 G.g__law_draw takes0 hr rfl T.M__law_draw T.F__law_draw.kp T.B__law_draw (xa_cons (xf_df df_int) xa_nil) (xCons_len (fun _ _ _ h => xNil_len h))) xa_nil)) (dg_name 7 sc__law_wood.nd)
    (dss_cons (ds_xsetLc2 8 (own := [("_law_i", 9)]) (ix := [9]) rfl sc__law_wood.nd (xi_range1 rfl T.z_range (xa_cons (xf_callK 0 G.g__law_draw takes0 hr rfl T.M__law_draw T.F__law_draw.kp T.B__law_draw (xa_cons (xf_df df_int) xa_nil) (xCons_len (fun _ _ _ h => xNil_len h))) xa_nil)) (blkOk_by (N := N__law_wood) (sc := defScope s__law_wood) (by decide +kernel)) (fun _ _ _ _ _ => (dg_name 9 sc__law_wood.nd)) (fun _ _ _ _ _ => (xf_call G.g__law_name takes0 hr rfl T.M__law_name T.F__law_name.kp T.B__law_name (xa_cons (xf_df (df_var 1)) (xa_cons (xf_callK 0 G.g__law_draw takes0 hr rfl T.M__law_draw T.F__law_draw.kp T.B__law_draw (xa_cons (xf_df (df_var 2)) xa_nil) (xCons_len (fun _ _ _ h => xNil_len h))) xa_nil)) (xCons_len (xCons_len (fun _ _ _ h => xNil_len h))))))
    (dss_one (ds_app 6 (de_df (df_tup (da_cons (df_de (de_call G.g__law_name (takes_of rfl rfl rfl rfl) hr rfl T.M__law_name T.F__law_name.kp T.B__law_name (da_cons (df_var 1) (da_cons (df_de (de_add (dl_de (de_add (dl_df df_int) (dl_df (df_var 7)))) (dl_df (df_mul (dv_df (df_var 3)) (dv_df (df_var 5)))))) da_nil)) (aCons_len (aCons_len (fun _ _ h => aNil_len h))))) (da_cons (df_de (de_tuple rfl T.z_tuple (dal_cons (dl_df (df_var 8)) dal_nil))) da_nil))))))))
    (dss_one (ds_app 4 (de_df (df_tup (da_cons (df_de (de_call G.g__law_name (takes_of rfl rfl rfl rfl) hr rfl T.M__law_name T.F__law_name.kp T.B__law_name (da_cons (df_var 1) (da_cons (df_var 5) da_nil)) (aCons_len (aCons_len (fun _ _ h => aNil_len h))))) (da_cons (df_de (de_sorted (room_eq hr) rfl T.z_sorted (dal_cons (dl_dp (dp_var 6)) dal_nil))) da_nil)))))))))
    (dss_one (ds_frz 4 (ds_ret (de_df (df_var 4)))))))))
theorem ok__law_rows (T : Txt K mg f fd) (G : Fns P w K mg base f fd n) : FnOk P w K mg base (L2.CX P w) (n + 1) (f 14) (fd 14) ["_law_wood_here", "_law_kind"] (spM ⟨K, w⟩ mg 2 (mir (n + 1) 14)) :=
  mk_fn (l := 2) (fb := b__law_rows (mir n)) T.F__law_rows sc__law_rows rfl (fun _ => rfl) fun cdv A outer s H E hr =>
    (dss_one (ds_ret (de_df (df_ix (dl_de (de_lc (own := [("_law_told", 2), ("_law_rows_here", 3)]) (ix := [2, 3]) rfl sc__law_rows.nd (di_seq (df_var 0)) (blkOk_by (N := N__law_rows) (sc := defScope s__law_rows) (by decide +kernel)) (fun _ _ _ _ _ => (dg_tup (n := 2) rfl (dgs_cons (dg_name 2 sc__law_rows.nd) (dgs_cons (dg_name 3 sc__law_rows.nd) dgs_nil)))) (fun _ _ _ _ _ => (dts_one (dt_eq (room_eq hr) (dv_df (df_var 2)) (dv_df (df_var 1))))) (fun _ _ _ _ _ => (de_df (df_var 3))))) (dv_df df_int)))))
theorem ok__law_term (T : Txt K mg f fd) (G : Fns P w K mg base f fd n) : FnOk P w K mg base (L2.CX P w) (n + 1) (f 15) (fd 15) ["_law_deck", "_law_code", "_law_calls_here", "_law_deep"] (spK ⟨K, w⟩ 3 (mir (n + 1) 15)) :=
  mk_fnK (l := 5) (fb := b__law_term (mir n)) T.F__law_term sc__law_term rfl rfl (fun _ => rfl) fun cdv A outer s H E hr =>
    (dss_cons (ds_xset 4 sc__law_term.nd (xf_callK 0 G.g__law_draw takes0 hr rfl T.M__law_draw T.F__law_draw.kp T.B__law_draw (xa_cons (xf_df df_int) xa_nil) (xCons_len (fun _ _ _ h => xNil_len h))))
    (dss_cons (ds_if (dt_dw (dw_and (dt_gt (dv_df (df_var 4)) (dv_df df_int)) (dw_and1 (dt_ne (room_eq hr) (dv_df (df_var 2)) (dv_de (de_lst da_nil))))))
    (dss_one (ds_xret (xf_add (xf_df (df_tup (da_cons df_str da_nil))) (xf_ix (xf_df (df_var 2)) (xf_callK 0 G.g__law_draw takes0 hr rfl T.M__law_draw T.F__law_draw.kp T.B__law_draw (xa_cons (xf_df (df_de (de_len rfl T.z_len (dal_cons (dl_df (df_var 2)) dal_nil)))) xa_nil) (xCons_len (fun _ _ _ h => xNil_len h)))))))
    dss_nil)
    (dss_cons (ds_set 5 sc__law_term.nd (de_lst da_nil))
    (dss_cons (ds_if (dt_gt (dv_df (df_var 3)) (dv_df df_int))
    (dss_cons (ds_xset 6 sc__law_term.nd (xf_callK 0 G.g__law_draw takes0 hr rfl T.M__law_draw T.F__law_draw.kp T.B__law_draw (xa_cons (xf_df df_int) xa_nil) (xCons_len (fun _ _ _ h => xNil_len h))))
    (dss_one (ds_for (ix := [7]) (passes_of rfl) rfl (di_range1 rfl T.z_range (da_cons (df_var 6) da_nil)) (dg_name 7 sc__law_term.nd)
    (dss_one (ds_xapp 5 (xf_callK 0 G.g__law_term takes0 hr rfl T.M__law_term T.F__law_term.kp T.B__law_term (xa_cons (xf_df (df_var 1)) (xa_cons (xf_df (df_var 2)) (xa_cons (xf_df (df_sub (dv_df (df_sub (dv_df (df_var 3)) (dv_df df_int))) (dv_df (df_div (dv_df (df_var 6)) (dv_df df_int))))) xa_nil))) (xCons_len (xCons_len (xCons_len (fun _ _ _ h => xNil_len h))))))))))
    dss_nil)
    (dss_cons (ds_xset 8 sc__law_term.nd (xf_call G.g__law_name takes0 hr rfl T.M__law_name T.F__law_name.kp T.B__law_name (xa_cons (xf_df (df_var 1)) (xa_cons (xf_add_int (xf_df df_int) (xf_callK 0 G.g__law_draw takes0 hr rfl T.M__law_draw T.F__law_draw.kp T.B__law_draw (xa_cons (xf_df df_int) xa_nil) (xCons_len (fun _ _ _ h => xNil_len h)))) xa_nil)) (xCons_len (xCons_len (fun _ _ _ h => xNil_len h)))))
    (dss_one (ds_xret (xf_tup (xa_cons (xf_df df_str) (xa_cons (xf_df (df_var 8)) (xa_cons (xf_df (df_eq (room_eq hr) (dv_df (df_var 4)) (dv_df df_int))) (xa_cons (xf_callK 0 G.g__law_mark takes0 hr rfl T.M__law_mark T.F__law_mark.kp T.B__law_mark xa_nil (fun _ _ _ h => xNil_len h)) (xa_cons (xf_df (df_de (de_tuple rfl T.z_tuple (dal_cons (dl_dp (dp_var 5)) dal_nil)))) xa_nil)))))))))))))
theorem ok__law_changed (T : Txt K mg f fd) (G : Fns P w K mg base f fd n) : FnOk P w K mg base (L2.CX P w) (n + 1) (f 16) (fd 16) ["_law_deck", "_law_code", "_law_term_here", "_law_calls_here"] (spK ⟨K, w⟩ 3 (mir (n + 1) 16)) :=
  mk_fnK (l := 4) (fb := b__law_changed (mir n)) T.F__law_changed sc__law_changed rfl rfl (fun _ => rfl) fun cdv A outer s H E hr =>
    (dss_cons (ds_xset 4 sc__law_changed.nd (xf_callK 0 G.g__law_draw takes0 hr rfl T.M__law_draw T.F__law_draw.kp T.B__law_draw (xa_cons (xf_df df_int) xa_nil) (xCons_len (fun _ _ _ h => xNil_len h))))
    (dss_cons (ds_if (dt_dw (dw_and (dt_eq (room_eq hr) (dv_df (df_var 4)) (dv_df df_int)) (dw_and1 (dt_ne (room_eq hr) (dv_df (df_var 3)) (dv_de (de_lst da_nil))))))
    (dss_one (ds_xret (xf_add (xf_df (df_tup (da_cons df_str da_nil))) (xf_ix (xf_df (df_var 3)) (xf_callK 0 G.g__law_draw takes0 hr rfl T.M__law_draw T.F__law_draw.kp T.B__law_draw (xa_cons (xf_df (df_de (de_len rfl T.z_len (dal_cons (dl_df (df_var 3)) dal_nil)))) xa_nil) (xCons_len (fun _ _ _ h => xNil_len h)))))))
    dss_nil)
    (dss_cons (ds_if (dt_eq (room_eq hr) (dv_df (df_var 4)) (dv_df df_int))
    (dss_cons (ds_xset 5 sc__law_changed.nd (xf_call G.g__law_name takes0 hr rfl T.M__law_name T.F__law_name.kp T.B__law_name (xa_cons (xf_df (df_var 1)) (xa_cons (xf_add_int (xf_df df_int) (xf_callK 0 G.g__law_draw takes0 hr rfl T.M__law_draw T.F__law_draw.kp T.B__law_draw (xa_cons (xf_df df_int) xa_nil) (xCons_len (fun _ _ _ h => xNil_len h)))) xa_nil)) (xCons_len (xCons_len (fun _ _ _ h => xNil_len h)))))
    (dss_one (ds_xret (xf_tup (xa_cons (xf_df df_str) (xa_cons (xf_df (df_var 5)) (xa_cons (xf_df df_bl) (xa_cons (xf_callK 0 G.g__law_mark takes0 hr rfl T.M__law_mark T.F__law_mark.kp T.B__law_mark xa_nil (fun _ _ _ h => xNil_len h)) (xa_cons (xf_df (df_tup da_nil)) xa_nil)))))))))
    dss_nil)
    (dss_cons (ds_xsetLc 6 (own := [("_law_part", 7)]) (ix := [7]) rfl sc__law_changed.nd (di_seq (df_ix (dl_df (df_var 2)) (dv_df df_int))) (blkOk_by (N := N__law_changed) (sc := defScope s__law_changed) (by decide +kernel)) (fun _ _ _ _ _ => (dg_name 7 sc__law_changed.nd)) (fun _ _ _ _ _ => (xf_callK 0 G.g__law_changed takes0 hr rfl T.M__law_changed T.F__law_changed.kp T.B__law_changed (xa_cons (xf_df (df_var 1)) (xa_cons (xf_df (df_var 7)) (xa_cons (xf_df (df_var 3)) xa_nil))) (xCons_len (xCons_len (xCons_len (fun _ _ _ h => xNil_len h)))))))
    (dss_one (ds_ret (de_df (df_tup (da_cons df_str (da_cons (df_ix (dl_df (df_var 2)) (dv_df df_int)) (da_cons (df_and (dv_df (df_ix (dl_df (df_var 2)) (dv_df df_int))) (df_one (df_lt (dv_df (df_var 4)) (dv_df df_int)))) (da_cons (df_ix (dl_df (df_var 2)) (dv_df df_int)) (da_cons (df_de (de_tuple rfl T.z_tuple (dal_cons (dl_df (df_var 6)) dal_nil))) da_nil)))))))))))))
theorem ok__law_calls (T : Txt K mg f fd) (G : Fns P w K mg base f fd n) : FnOk P w K mg base (L2.CX P w) (n + 1) (f 17) (fd 17) ["_law_kinds", "_law_branches"] (spM ⟨K, w⟩ mg 2 (mir (n + 1) 17)) :=
  mk_fn (l := 3) (fb := b__law_calls (mir n)) T.F__law_calls sc__law_calls rfl (fun _ => rfl) fun cdv A outer s H E hr =>
    (dss_cons (ds_set 2 sc__law_calls.nd (de_lst da_nil))
    (dss_cons (ds_for (ix := [3]) (passes_of rfl) rfl (di_range1 rfl T.z_range (da_cons (df_de (de_len rfl T.z_len (dal_cons (dl_df (df_var 0)) dal_nil))) da_nil)) (dg_name 3 sc__law_calls.nd)
    (dss_one (ds_for (ix := [4]) (passes_of rfl) rfl (di_range1 rfl T.z_range (da_cons (df_de (de_len rfl T.z_len (dal_cons (dl_df (df_var 1)) dal_nil))) da_nil)) (dg_name 4 sc__law_calls.nd)
    (dss_one (ds_if (dt_eq (room_eq hr) (dv_df (df_ix (dl_df (df_var 0)) (dv_df (df_var 3)))) (dv_df (df_ix (dl_df (df_var 1)) (dv_df (df_var 4)))))
    (dss_one (ds_app 2 (de_df (df_tup (da_cons (df_var 3) (da_cons (df_var 4) da_nil))))))
    dss_nil)))))
    (dss_one (ds_retV 2))))
theorem ok__law_rule (T : Txt K mg f fd) (G : Fns P w K mg base f fd n) : FnOk P w K mg base (L2.CX P w) (n + 1) (f 18) (fd 18) ["_law_deck", "_law_code", "_law_base", "_law_calls_here"] (spK ⟨K, w⟩ 3 (mir (n + 1) 18)) :=
  mk_fnK (l := 1) (fb := b__law_rule (mir n)) T.F__law_rule sc__law_rule rfl rfl (fun _ => rfl) fun cdv A outer s H E hr =>
    (dss_cons (ds_xset 4 sc__law_rule.nd (xf_callK 0 G.g__law_draw takes0 hr rfl T.M__law_draw T.F__law_draw.kp T.B__law_draw (xa_cons (xf_df df_int) xa_nil) (xCons_len (fun _ _ _ h => xNil_len h))))
    (dss_cons (ds_if (dt_eq (room_eq hr) (dv_df (df_var 4)) (dv_df df_int))
    (dss_one (ds_ret (de_df (df_var 2))))
    dss_nil)
    (dss_cons (ds_if (dt_eq (room_eq hr) (dv_df (df_var 4)) (dv_df df_int))
    (dss_one (ds_xret (xf_callK 0 G.g__law_changed takes0 hr rfl T.M__law_changed T.F__law_changed.kp T.B__law_changed (xa_cons (xf_df (df_var 1)) (xa_cons (xf_df (df_var 2)) (xa_cons (xf_df (df_var 3)) xa_nil))) (xCons_len (xCons_len (xCons_len (fun _ _ _ h => xNil_len h)))))))
    dss_nil)
    (dss_one (ds_xret (xf_callK 0 G.g__law_term takes0 hr rfl T.M__law_term T.F__law_term.kp T.B__law_term (xa_cons (xf_df (df_var 1)) (xa_cons (xf_df (df_var 3)) (xa_cons (xf_df df_int) xa_nil))) (xCons_len (xCons_len (xCons_len (fun _ _ _ h => xNil_len h))))))))))
theorem ok__law_turning (T : Txt K mg f fd) (G : Fns P w K mg base f fd n) : FnOk P w K mg base (L2.CX P w) (n + 1) (f 19) (fd 19) ["_law_deck", "_law_code", "_law_wood_here"] (spK ⟨K, w⟩ 2 (mir (n + 1) 19)) :=
  mk_fnK (l := 9) (fb := b__law_turning (mir n)) T.F__law_turning sc__law_turning rfl rfl (fun _ => rfl) fun cdv A outer s H E hr =>
    (dss_cons (ds_set 3 sc__law_turning.nd (de_lst (da_cons (df_ix (dl_df (df_ix (dl_df (df_var 2)) (dv_df df_int))) (dv_df df_int)) da_nil)))
    (dss_cons (ds_xfor (ix := [4]) (passes_of rfl) rfl (xi_range1 rfl T.z_range (xa_cons (xf_callK 0 G.g__law_draw takes0 hr rfl T.M__law_draw T.F__law_draw.kp T.B__law_draw (xa_cons (xf_df df_int) xa_nil) (xCons_len (fun _ _ _ h => xNil_len h))) xa_nil)) (dg_name 4 sc__law_turning.nd)
    (dss_one (ds_xapp 3 (xf_ix (xf_ix (xf_df (df_var 2)) (xf_callK 0 G.g__law_draw takes0 hr rfl T.M__law_draw T.F__law_draw.kp T.B__law_draw (xa_cons (xf_df (df_de (de_len rfl T.z_len (dal_cons (dl_df (df_var 2)) dal_nil)))) xa_nil) (xCons_len (fun _ _ _ h => xNil_len h)))) (xf_df df_int)))))
    (dss_cons (ds_set 5 sc__law_turning.nd (de_lst da_nil))
    (dss_cons (ds_frz 3 (ds_for (ix := [6]) (passes_of rfl) rfl (di_seq (df_var 3)) (dg_name 6 sc__law_turning.nd)
    (dss_cons (ds_xset 7 sc__law_turning.nd (xf_callK 0 G.g__law_term takes0 hr rfl T.M__law_term T.F__law_term.kp T.B__law_term (xa_cons (xf_df (df_var 1)) (xa_cons (xf_df (df_de (de_lst da_nil))) (xa_cons (xf_df df_int) xa_nil))) (xCons_len (xCons_len (xCons_len (fun _ _ _ h => xNil_len h))))))
    (dss_cons (ds_set 8 sc__law_turning.nd (de_lst da_nil))
    (dss_cons (ds_for (ix := [9, 10]) (passes_of rfl) rfl (di_seq (df_de (de_call G.g__law_rows (takes_of rfl rfl rfl rfl) hr rfl T.M__law_rows T.F__law_rows.kp T.B__law_rows (da_cons (df_var 2) (da_cons (df_var 6) da_nil)) (aCons_len (aCons_len (fun _ _ h => aNil_len h)))))) (dg_tup (n := 2) rfl (dgs_cons (dg_name 9 sc__law_turning.nd) (dgs_cons (dg_name 10 sc__law_turning.nd) dgs_nil)))
    (dss_one (ds_frz 3 (ds_xapp 8 (xf_callK 0 G.g__law_rule takes0 hr rfl T.M__law_rule T.F__law_rule.kp T.B__law_rule (xa_cons (xf_df (df_var 1)) (xa_cons (xf_df (df_var 7)) (xa_cons (xf_df (df_de (de_call G.g__law_calls takes0 hr rfl T.M__law_calls T.F__law_calls.kp T.B__law_calls (da_cons (df_var 3) (da_cons (df_var 10) da_nil)) (aCons_len (aCons_len (fun _ _ h => aNil_len h)))))) xa_nil))) (xCons_len (xCons_len (xCons_len (fun _ _ _ h => xNil_len h)))))))))
    (dss_one (ds_frz 8 (ds_app 5 (de_df (df_tup (da_cons (df_var 6) (da_cons (df_var 8) da_nil))))))))))))
    (dss_cons (ds_frz 3 (ds_xset 11 sc__law_turning.nd (xf_callK 0 G.g__law_term takes0 hr rfl T.M__law_term T.F__law_term.kp T.B__law_term (xa_cons (xf_df (df_var 1)) (xa_cons (xf_df (df_de (de_call G.g__law_calls takes0 hr rfl T.M__law_calls T.F__law_calls.kp T.B__law_calls (da_cons (df_var 3) (da_cons (df_de (de_lst (da_cons (df_ix (dl_df (df_ix (dl_df (df_var 2)) (dv_df df_int))) (dv_df df_int)) da_nil))) da_nil)) (aCons_len (aCons_len (fun _ _ h => aNil_len h)))))) (xa_cons (xf_df df_int) xa_nil))) (xCons_len (xCons_len (xCons_len (fun _ _ _ h => xNil_len h)))))))
    (dss_one (ds_frz 5 (ds_ret (de_df (df_tup (da_cons (df_var 2) (da_cons (df_de (de_call G.g__law_bare (takes_of rfl rfl rfl rfl) hr rfl T.M__law_bare T.F__law_bare.kp T.B__law_bare (da_cons (df_var 11) da_nil) (aCons_len (fun _ _ h => aNil_len h)))) (da_cons (df_var 5) da_nil)))))))))))))
theorem ok__law_bare (T : Txt K mg f fd) (G : Fns P w K mg base f fd n) : FnOk P w K mg base (L2.CX P w) (n + 1) (f 20) (fd 20) ["_law_term_here"] (spM ⟨K, w⟩ mg 1 (mir (n + 1) 20)) :=
  mk_fn (l := 1) (fb := b__law_bare (mir n)) T.F__law_bare sc__law_bare rfl (fun _ => rfl) fun cdv A outer s H E hr =>
    (dss_cons (ds_if (dt_eq (room_eq hr) (dv_df (df_ix (dl_df (df_var 0)) (dv_df df_int))) (dv_df df_str))
    (dss_one (ds_ret (de_df (df_var 0))))
    dss_nil)
    (dss_one (ds_ret (de_df (df_tup (da_cons df_str (da_cons (df_ix (dl_df (df_var 0)) (dv_df df_int)) (da_cons df_bl (da_cons (df_ix (dl_df (df_var 0)) (dv_df df_int)) (da_cons (df_de (de_tuple rfl T.z_tuple (dal_cons (dl_de (de_lc (own := [("_law_part", 1)]) (ix := [1]) rfl sc__law_bare.nd (di_seq (df_ix (dl_df (df_var 0)) (dv_df df_int))) (blkOk_by (N := N__law_bare) (sc := defScope s__law_bare) (by decide +kernel)) (fun _ _ _ _ _ => (dg_name 1 sc__law_bare.nd)) (fun _ _ _ _ _ => dts_nil) (fun _ _ _ _ _ => (de_call G.g__law_bare takes0 hr rfl T.M__law_bare T.F__law_bare.kp T.B__law_bare (da_cons (df_var 1) da_nil) (aCons_len (fun _ _ h => aNil_len h)))))) dal_nil))) da_nil))))))))))
theorem ok__law_copy (T : Txt K mg f fd) (G : Fns P w K mg base f fd n) : FnOk P w K mg base (L2.CX P w) (n + 1) (f 21) (fd 21) ["_law_turning_here"] (spM ⟨K, w⟩ mg 1 (mir (n + 1) 21)) :=
  mk_fn (l := 4) (fb := b__law_copy (mir n)) T.F__law_copy sc__law_copy rfl (fun _ => rfl) fun cdv A outer s H E hr =>
    (dss_cons (ds_setLcF 1 (own := [("_law_kind", 2), ("_law_rows_here", 3)]) (ix := [2, 3]) rfl sc__law_copy.nd (di_seq (df_ix (dl_df (df_var 0)) (dv_df df_int))) (blkOk_by (N := N__law_copy) (sc := defScope s__law_copy) (by decide +kernel)) (fun _ _ _ _ _ => (dg_tup (n := 2) rfl (dgs_cons (dg_name 2 sc__law_copy.nd) (dgs_cons (dg_name 3 sc__law_copy.nd) dgs_nil)))) (fun _ _ _ _ _ => dts_nil) (fun _ _ _ _ _ => (de_df (df_tup (da_cons (df_var 2) (da_cons (df_de (de_list rfl T.z_list (dal_cons (dl_df (df_var 3)) dal_nil))) da_nil))))))
    (dss_one (ds_ret (de_df (df_tup (da_cons (df_var 1) (da_cons (df_ix (dl_df (df_var 0)) (dv_df df_int)) (da_cons (df_de (de_lc (own := [("_law_kind", 2), ("_law_rules", 4)]) (ix := [2, 4]) rfl sc__law_copy.nd (di_seq (df_ix (dl_df (df_var 0)) (dv_df df_int))) (blkOk_by (N := N__law_copy) (sc := defScope s__law_copy) (by decide +kernel)) (fun _ _ _ _ _ => (dg_tup (n := 2) rfl (dgs_cons (dg_name 2 sc__law_copy.nd) (dgs_cons (dg_name 4 sc__law_copy.nd) dgs_nil)))) (fun _ _ _ _ _ => dts_nil) (fun _ _ _ _ _ => (de_df (df_tup (da_cons (df_var 2) (da_cons (df_de (de_list rfl T.z_list (dal_cons (dl_df (df_var 4)) dal_nil))) da_nil))))))) da_nil))))))))
theorem ok__law_whole (T : Txt K mg f fd) (G : Fns P w K mg base f fd n) : FnOk P w K mg base (L2.CX P w) (n + 1) (f 22) (fd 22) ["_law_found"] (spM ⟨K, w⟩ mg 1 (mir (n + 1) 22)) :=
  mk_fn (l := 0) (fb := b__law_whole (mir n)) T.F__law_whole sc__law_whole rfl (fun _ => rfl) fun cdv A outer s H E hr =>
    (dss_one (ds_ret (de_df (df_and (dv_df (df_isi (dv_df (df_var 0)) rfl T.z_isinstance rfl T.z_int rfl)) (df_one (df_not (dv_df (df_isi (dv_df (df_var 0)) rfl T.z_isinstance rfl T.z_bool rfl))))))))
theorem ok__law_is_stump (T : Txt K mg f fd) (G : Fns P w K mg base f fd n) : FnOk P w K mg base (L2.CX P w) (n + 1) (f 23) (fd 23) ["_law_found"] (spM ⟨K, w⟩ mg 1 (mir (n + 1) 23)) :=
  mk_fn (l := 1) (fb := b__law_is_stump (mir n)) T.F__law_is_stump sc__law_is_stump rfl (fun _ => rfl) fun cdv A outer s H E hr =>
    (dss_cons (ds_if (dt_dw (dw_or (dt_not (dt_val (dv_df (df_isi (dv_df (df_var 0)) rfl T.z_isinstance rfl T.z_tuple rfl)))) (dw_or1 (dt_eq (room_eq hr) (dv_de (de_len rfl T.z_len (dal_cons (dl_df (df_var 0)) dal_nil))) (dv_df df_int)))))
    (dss_one (ds_ret (de_df df_bl)))
    dss_nil)
    (dss_cons (ds_if (dt_eq (room_eq hr) (dv_df (df_var 0)) (dv_df (df_tup (da_cons df_str da_nil))))
    (dss_one (ds_ret (de_df df_bl)))
    dss_nil)
    (dss_cons (ds_if (dt_dw (dw_or (dt_ne (room_eq hr) (dv_de (de_len rfl T.z_len (dal_cons (dl_df (df_var 0)) dal_nil))) (dv_df df_int)) (dw_or (dt_ne (room_eq hr) (dv_df (df_ix (dl_df (df_var 0)) (dv_df df_int))) (dv_df df_str)) (dw_or (dt_not (dt_val (dv_df (df_isi (dv_df (df_ix (dl_df (df_var 0)) (dv_df df_int))) rfl T.z_isinstance rfl T.z_str rfl)))) (dw_or1 (dt_not (dt_val (dv_de (de_call G.g__law_whole (takes_of rfl rfl rfl rfl) hr rfl T.M__law_whole T.F__law_whole.kp T.B__law_whole (da_cons (df_ix (dl_df (df_var 0)) (dv_df df_int)) da_nil) (aCons_len (fun _ _ h => aNil_len h)))))))))))
    (dss_one (ds_ret (de_df df_bl)))
    dss_nil)
    (dss_cons (ds_if (dt_not (dt_val (dv_df (df_isi (dv_df (df_ix (dl_df (df_var 0)) (dv_df df_int))) rfl T.z_isinstance rfl T.z_tuple rfl))))
    (dss_one (ds_ret (de_df df_bl)))
    dss_nil)
    (dss_cons (ds_for (ix := [1]) (passes_of rfl) rfl (di_seq (df_ix (dl_df (df_var 0)) (dv_df df_int))) (dg_name 1 sc__law_is_stump.nd)
    (dss_one (ds_if (dt_not (dt_val (dv_de (de_call G.g__law_is_stump (takes_of rfl rfl rfl rfl) hr rfl T.M__law_is_stump T.F__law_is_stump.kp T.B__law_is_stump (da_cons (df_var 1) da_nil) (aCons_len (fun _ _ h => aNil_len h))))))
    (dss_one (ds_ret (de_df df_bl)))
    dss_nil)))
    (dss_one (ds_ret (de_df df_bl))))))))
theorem ok__law_rule_of (T : Txt K mg f fd) (G : Fns P w K mg base f fd n) : FnOk P w K mg base (L2.CX P w) (n + 1) (f 24) (fd 24) ["_law_turning_here", "_law_mode", "_law_name_here"] (spM ⟨K, w⟩ mg 3 (mir (n + 1) 24)) :=
  mk_fn (l := 4) (fb := b__law_rule_of (mir n)) T.F__law_rule_of sc__law_rule_of rfl (fun _ => rfl) fun cdv A outer s H E hr =>
    (dss_cons (ds_asg (ix := [3, 4]) (df_ix (dl_df (df_ix (dl_df (df_var 0)) (dv_df df_int))) (dv_df (df_var 1))) (dg_tup (n := 2) rfl (dgs_cons (dg_name 3 sc__law_rule_of.nd) (dgs_cons (dg_name 4 sc__law_rule_of.nd) dgs_nil))))
    (dss_one (ds_ret (de_df (df_ix (dl_de (de_lc (own := [("_law_row", 5), ("_law_rule_here", 6)]) (ix := [5, 6]) rfl sc__law_rule_of.nd (di_zip rfl T.z_zip (da_cons (df_de (de_call G.g__law_rows (takes_of rfl rfl rfl rfl) hr rfl T.M__law_rows T.F__law_rows.kp T.B__law_rows (da_cons (df_ix (dl_df (df_var 0)) (dv_df df_int)) (da_cons (df_var 3) da_nil)) (aCons_len (aCons_len (fun _ _ h => aNil_len h))))) (da_cons (df_var 4) da_nil))) (blkOk_by (N := N__law_rule_of) (sc := defScope s__law_rule_of) (by decide +kernel)) (fun _ _ _ _ _ => (dg_tup (n := 2) rfl (dgs_cons (dg_name 5 sc__law_rule_of.nd) (dgs_cons (dg_name 6 sc__law_rule_of.nd) dgs_nil)))) (fun _ _ _ _ _ => (dts_one (dt_eq (room_eq hr) (dv_df (df_ix (dl_df (df_var 5)) (dv_df df_int))) (dv_df (df_var 2))))) (fun _ _ _ _ _ => (de_df (df_var 6))))) (dv_df df_int))))))
theorem ok__law_made (T : Txt K mg f fd) (G : Fns P w K mg base f fd n) : FnOk P w K mg base (L2.CX P w) (n + 1) (f 25) (fd 25) ["_law_turning_here", "_law_mode", "_law_tree_here"] (spM ⟨K, w⟩ mg 3 (mir (n + 1) 25)) :=
  mk_fn (l := 0) (fb := b__law_made (mir n)) T.F__law_made sc__law_made rfl (fun _ => rfl) fun cdv A outer s H E hr =>
    (dss_one (ds_ret (de_call G.g__law_made_by (takes_of rfl rfl rfl rfl) hr rfl T.M__law_made_by T.F__law_made_by.kp T.B__law_made_by (da_cons (df_var 0) (da_cons (df_de (de_call G.g__law_rule_of (takes_of rfl rfl rfl rfl) hr rfl T.M__law_rule_of T.F__law_rule_of.kp T.B__law_rule_of (da_cons (df_var 0) (da_cons (df_var 1) (da_cons (df_ix (dl_df (df_var 2)) (dv_df df_int)) da_nil))) (aCons_len (aCons_len (aCons_len (fun _ _ h => aNil_len h)))))) (da_cons (df_var 2) da_nil))) (aCons_len (aCons_len (aCons_len (fun _ _ h => aNil_len h)))))))
theorem ok__law_made_by (T : Txt K mg f fd) (G : Fns P w K mg base f fd n) : FnOk P w K mg base (L2.CX P w) (n + 1) (f 26) (fd 26) ["_law_turning_here", "_law_term_here", "_law_tree_here"] (spM ⟨K, w⟩ mg 3 (mir (n + 1) 26)) :=
  mk_fn (l := 2) (fb := b__law_made_by (mir n)) T.F__law_made_by sc__law_made_by rfl (fun _ => rfl) fun cdv A outer s H E hr =>
    (dss_cons (ds_if (dt_eq (room_eq hr) (dv_df (df_ix (dl_df (df_var 1)) (dv_df df_int))) (dv_df df_str))
    (dss_one (ds_ret (de_call G.g__law_made (takes_of rfl rfl rfl rfl) hr rfl T.M__law_made T.F__law_made.kp T.B__law_made (da_cons (df_var 0) (da_cons (df_ix (dl_df (df_var 1)) (dv_df df_int)) (da_cons (df_ix (dl_df (df_ix (dl_df (df_var 2)) (dv_df df_int))) (dv_df (df_ix (dl_df (df_var 1)) (dv_df df_int)))) da_nil))) (aCons_len (aCons_len (aCons_len (fun _ _ h => aNil_len h)))))))
    dss_nil)
    (dss_cons (ds_setLcF 3 (own := [("_law_part", 4)]) (ix := [4]) rfl sc__law_made_by.nd (di_seq (df_ix (dl_df (df_var 1)) (dv_df df_int))) (blkOk_by (N := N__law_made_by) (sc := defScope s__law_made_by) (by decide +kernel)) (fun _ _ _ _ _ => (dg_name 4 sc__law_made_by.nd)) (fun _ _ _ _ _ => dts_nil) (fun _ _ _ _ _ => (de_call G.g__law_made_by takes0 hr rfl T.M__law_made_by T.F__law_made_by.kp T.B__law_made_by (da_cons (df_var 0) (da_cons (df_var 4) (da_cons (df_var 2) da_nil))) (aCons_len (aCons_len (aCons_len (fun _ _ h => aNil_len h)))))))
    (dss_one (ds_ret (de_df (df_tup (da_cons (df_ix (dl_df (df_var 1)) (dv_df df_int)) (da_cons (df_de (de_add (dl_df (df_ix (dl_df (df_var 1)) (dv_df df_int))) (dl_df (df_mul (dv_df (df_ix (dl_df (df_var 2)) (dv_df df_int))) (dv_de (de_int rfl T.z_int (dal_cons (dl_df (df_ix (dl_df (df_var 1)) (dv_df df_int))) dal_nil))))))) (da_cons (df_de (de_tuple rfl T.z_tuple (dal_cons (dl_df (df_var 3)) dal_nil))) da_nil)))))))))
theorem ok__law_tree (T : Txt K mg f fd) (G : Fns P w K mg base f fd n) : FnOk P w K mg base (L2.CX P w) (n + 1) (f 27) (fd 27) ["_law_deck", "_law_wood_here", "_law_kind", "_law_deep"] (spK ⟨K, w⟩ 3 (mir (n + 1) 27)) :=
  mk_fnK (l := 6) (fb := b__law_tree (mir n)) T.F__law_tree sc__law_tree rfl rfl (fun _ => rfl) fun cdv A outer s H E hr =>
    (dss_cons (ds_set 4 sc__law_tree.nd (de_df (df_de (de_call G.g__law_rows (takes_of rfl rfl rfl rfl) hr rfl T.M__law_rows T.F__law_rows.kp T.B__law_rows (da_cons (df_var 1) (da_cons (df_var 2) da_nil)) (aCons_len (aCons_len (fun _ _ h => aNil_len h)))))))
    (dss_cons (ds_if (dt_eq (room_eq hr) (dv_df (df_var 3)) (dv_df df_int))
    (dss_one (ds_setLcF 4 (own := [("_law_row", 5)]) (ix := [5]) rfl sc__law_tree.nd (di_seq (df_var 4)) (blkOk_by (N := N__law_tree) (sc := defScope s__law_tree) (by decide +kernel)) (fun _ _ _ _ _ => (dg_name 5 sc__law_tree.nd)) (fun _ _ _ _ _ => (dts_one (dt_eq (room_eq hr) (dv_df (df_ix (dl_df (df_var 5)) (dv_df df_int))) (dv_df (df_tup da_nil))))) (fun _ _ _ _ _ => (de_df (df_var 5)))))
    dss_nil)
    (dss_cons (ds_xasg (ix := [6, 7]) (xf_ix (xf_df (df_var 4)) (xf_callK 0 G.g__law_draw takes0 hr rfl T.M__law_draw T.F__law_draw.kp T.B__law_draw (xa_cons (xf_df (df_de (de_len rfl T.z_len (dal_cons (dl_df (df_var 4)) dal_nil)))) xa_nil) (xCons_len (fun _ _ _ h => xNil_len h)))) (dg_tup (n := 2) rfl (dgs_cons (dg_name 6 sc__law_tree.nd) (dgs_cons (dg_name 7 sc__law_tree.nd) dgs_nil))))
    (dss_cons (ds_xset 8 sc__law_tree.nd (xf_callK 0 G.g__law_mark takes0 hr rfl T.M__law_mark T.F__law_mark.kp T.B__law_mark xa_nil (fun _ _ _ h => xNil_len h)))
    (dss_one (ds_xret (xf_tup (xa_cons (xf_df (df_var 6)) (xa_cons (xf_df (df_var 8)) (xa_cons (xf_tuple rfl T.z_tuple (xa_cons (xf_lc (own := [("_law_branch", 9)]) (ix := [9]) rfl sc__law_tree.nd (di_seq (df_var 7)) (blkOk_by (N := N__law_tree) (sc := defScope s__law_tree) (by decide +kernel)) (fun _ _ _ _ _ => (dg_name 9 sc__law_tree.nd)) (fun _ _ _ _ _ => (xf_callK 0 G.g__law_tree takes0 hr rfl T.M__law_tree T.F__law_tree.kp T.B__law_tree (xa_cons (xf_df (df_var 1)) (xa_cons (xf_df (df_var 9)) (xa_cons (xf_df (df_sub (dv_df (df_var 3)) (dv_df df_int))) xa_nil))) (xCons_len (xCons_len (xCons_len (fun _ _ _ h => xNil_len h))))))) xa_nil)) xa_nil))))))))))
theorem ok__law_begins (T : Txt K mg f fd) (G : Fns P w K mg base f fd n) : FnOk P w K mg base (L2.CX P w) (n + 1) (f 28) (fd 28) ["_law_stump", "_law_tree_here"] (spM ⟨K, w⟩ mg 2 (mir (n + 1) 28)) :=
  mk_fn (l := 2) (fb := b__law_begins (mir n)) T.F__law_begins sc__law_begins rfl (fun _ => rfl) fun cdv A outer s H E hr =>
    (dss_cons (ds_if (dt_eq (room_eq hr) (dv_df (df_ix (dl_df (df_var 0)) (dv_df df_int))) (dv_df df_str))
    (dss_one (ds_ret (de_df df_bl)))
    dss_nil)
    (dss_cons (ds_if (dt_ne (room_eq hr) (dv_df (df_tup (da_cons (df_ix (dl_df (df_var 0)) (dv_df df_int)) (da_cons (df_ix (dl_df (df_var 0)) (dv_df df_int)) (da_cons (df_de (de_len rfl T.z_len (dal_cons (dl_df (df_ix (dl_df (df_var 0)) (dv_df df_int))) dal_nil))) da_nil))))) (dv_df (df_tup (da_cons (df_ix (dl_df (df_var 1)) (dv_df df_int)) (da_cons (df_ix (dl_df (df_var 1)) (dv_df df_int)) (da_cons (df_de (de_len rfl T.z_len (dal_cons (dl_df (df_ix (dl_df (df_var 1)) (dv_df df_int))) dal_nil))) da_nil))))))
    (dss_one (ds_ret (de_df df_bl)))
    dss_nil)
    (dss_cons (ds_for (ix := [2, 3]) (passes_of rfl) rfl (di_zip rfl T.z_zip (da_cons (df_ix (dl_df (df_var 0)) (dv_df df_int)) (da_cons (df_ix (dl_df (df_var 1)) (dv_df df_int)) da_nil))) (dg_tup (n := 2) rfl (dgs_cons (dg_name 2 sc__law_begins.nd) (dgs_cons (dg_name 3 sc__law_begins.nd) dgs_nil)))
    (dss_one (ds_if (dt_not (dt_val (dv_de (de_call G.g__law_begins (takes_of rfl rfl rfl rfl) hr rfl T.M__law_begins T.F__law_begins.kp T.B__law_begins (da_cons (df_var 2) (da_cons (df_var 3) da_nil)) (aCons_len (aCons_len (fun _ _ h => aNil_len h)))))))
    (dss_one (ds_ret (de_df df_bl)))
    dss_nil)))
    (dss_one (ds_ret (de_df df_bl))))))
theorem ok__law_stumps (T : Txt K mg f fd) (G : Fns P w K mg base f fd n) : FnOk P w K mg base (L2.CX P w) (n + 1) (f 29) (fd 29) ["_law_found", "_law_count"] (spM ⟨K, w⟩ mg 2 (mir (n + 1) 29)) :=
  mk_fn (l := 1) (fb := b__law_stumps (mir n)) T.F__law_stumps sc__law_stumps rfl (fun _ => rfl) fun cdv A outer s H E hr =>
    (dss_cons (ds_if (dt_dw (dw_or (dt_not (dt_val (dv_df (df_isi (dv_df (df_var 0)) rfl T.z_isinstance rfl T.z_list rfl)))) (dw_or1 (dt_ne (room_eq hr) (dv_de (de_len rfl T.z_len (dal_cons (dl_df (df_var 0)) dal_nil))) (dv_df (df_var 1))))))
    (dss_one (ds_ret (de_df df_bl)))
    dss_nil)
    (dss_cons (ds_for (ix := [2]) (passes_of rfl) rfl (di_seq (df_var 0)) (dg_name 2 sc__law_stumps.nd)
    (dss_one (ds_if (dt_not (dt_val (dv_de (de_call G.g__law_is_stump (takes_of rfl rfl rfl rfl) hr rfl T.M__law_is_stump T.F__law_is_stump.kp T.B__law_is_stump (da_cons (df_var 2) da_nil) (aCons_len (fun _ _ h => aNil_len h))))))
    (dss_one (ds_ret (de_df df_bl)))
    dss_nil)))
    (dss_one (ds_ret (de_df df_bl)))))
theorem ok_law (T : Txt K mg f fd) (G : Fns P w K mg base f fd n) : FnOk P w K mg base (L2.CX P w) (n + 1) (f 30) (fd 30) ["_law_script"] (spM ⟨K, w⟩ mg 1 (mir (n + 1) 30)) :=
  mk_fn (l := 14) (fb := b_law (mir n)) T.F_law sc_law rfl (fun _ => rfl) fun cdv A outer s H E hr =>
    (dss_cons (ds_set 1 sc_law.nd (de_call G.g__law_numbers (takes_of rfl rfl rfl rfl) hr rfl T.M__law_numbers T.F__law_numbers.kp T.B__law_numbers (da_cons (df_var 0) (da_cons df_int da_nil)) (aCons_len (aCons_len (fun _ _ h => aNil_len h)))))
    (dss_cons (ds_xset 2 sc_law.nd (xf_callK 1 G.g__law_draw takes0 hr rfl T.M__law_draw T.F__law_draw.kp T.B__law_draw (xa_cons (xf_df (df_pow (dv_df df_int) (dv_df df_int))) xa_nil) (xCons_len (fun _ _ _ h => xNil_len h))))
    (dss_cons (ds_xset 3 sc_law.nd (xf_callK 1 G.g__law_turning takes0 hr rfl T.M__law_turning T.F__law_turning.kp T.B__law_turning (xa_cons (xf_df (df_var 2)) (xa_cons (xf_callK 1 G.g__law_wood takes0 hr rfl T.M__law_wood T.F__law_wood.kp T.B__law_wood (xa_cons (xf_df (df_var 2)) xa_nil) (xCons_len (fun _ _ _ h => xNil_len h))) xa_nil)) (xCons_len (xCons_len (fun _ _ _ h => xNil_len h)))))
    (dss_cons (ds_set 4 sc_law.nd (de_df (df_de (de_call G.g__law_copy (takes_of rfl rfl rfl rfl) hr rfl T.M__law_copy T.F__law_copy.kp T.B__law_copy (da_cons (df_var 3) da_nil) (aCons_len (fun _ _ h => aNil_len h))))))
    (dss_cons (ds_set 5 sc_law.nd (de_df (df_de (de_len rfl T.z_len (dal_cons (dl_df (df_ix (dl_df (df_var 3)) (dv_df df_int))) dal_nil)))))
    (dss_cons (ds_set 6 sc_law.nd (de_addO (de_lc (own := [("_law_deep", 7)]) (ix := [7]) rfl sc_law.nd (di_seq (df_de (de_lst (da_cons df_int (da_cons df_int (da_cons df_int (da_cons df_int da_nil))))))) (blkOk_by (N := N_law) (sc := defScope s_law) (by decide +kernel)) (fun _ _ _ _ _ => (dg_name 7 sc_law.nd)) (fun _ _ _ _ _ => dts_nil) (fun _ _ _ _ _ => (de_call G.g_commons_within takes0 hr rfl T.M_commons_within T.F_commons_within.kp T.B_commons_within (da_cons (df_var 4) (da_cons (df_var 7) da_nil)) (aCons_len (aCons_len (fun _ _ h => aNil_len h)))))) (de_lstO (dao_cons (de_call G.g_commons (takes_of rfl rfl rfl rfl) hr rfl T.M_commons T.F_commons.kp T.B_commons (da_cons (df_var 4) da_nil) (aCons_len (fun _ _ h => aNil_len h))) dao_nil))))
    (dss_cons (ds_thaw 6 [8] [0, 1, 2, 3, 4, 5, 7, 9, 10, 11, 12, 13, 14] (ds_for (ix := [8]) (passes_of rfl) rfl (di_seq (df_var 6)) (dg_name 8 sc_law.nd)
    (dss_one (ds_if (dt_not (dt_val (dv_df (df_callV G.g__law_stumps (takes_of rfl rfl rfl rfl) hr rfl T.M__law_stumps T.F__law_stumps.kp T.B__law_stumps (dav_cons (dv_dp (dp_var 8)) (dav_cons (dv_df (df_var 5)) dav_nil)) (aCons_len (aCons_len (fun _ _ h => aNil_len h)))))))
    (dss_one (ds_ret (de_df df_bl)))
    dss_nil))))
    (dss_cons (ds_thaw 6 [] [0, 1, 2, 3, 4, 5, 7, 10, 11, 12, 13, 14] (ds_setLc 9 (own := [("_law_table", 8)]) (ix := [8]) rfl sc_law.nd (di_seq (df_var 6)) (blkOk_by (N := N_law) (sc := defScope s_law) (by decide +kernel)) (fun _ _ _ _ _ => (dg_name 8 sc_law.nd)) (fun _ _ _ _ _ => dts_nil) (fun _ _ _ _ _ => (de_list rfl T.z_list (dal_cons (dl_dp (dp_var 8)) dal_nil)))))
    (dss_cons (ds_for (ix := [10]) (passes_of rfl) rfl (di_range1 rfl T.z_range (da_cons (df_var 5) da_nil)) (dg_name 10 sc_law.nd)
    (dss_one (ds_for (ix := [11]) (passes_of rfl) rfl (di_range1 rfl T.z_range (da_cons df_int da_nil)) (dg_name 11 sc_law.nd)
    (dss_cons (ds_set 7 sc_law.nd (de_df (df_de (de_add (dl_df df_int) (dl_df (df_mod (dv_df (df_var 11)) (dv_df df_int)))))))
    (dss_cons (ds_xset 12 sc_law.nd (xf_callK 1 G.g__law_tree takes0 hr rfl T.M__law_tree T.F__law_tree.kp T.B__law_tree (xa_cons (xf_df (df_ix (dl_df (df_var 3)) (dv_df df_int))) (xa_cons (xf_df (df_ix (dl_df (df_ix (dl_df (df_ix (dl_df (df_var 3)) (dv_df df_int))) (dv_df (df_var 10)))) (dv_df df_int))) (xa_cons (xf_df (df_var 7)) xa_nil))) (xCons_len (xCons_len (xCons_len (fun _ _ _ h => xNil_len h))))))
    (dss_cons (ds_set 13 sc_law.nd (de_df (df_de (de_call G.g__law_made (takes_of rfl rfl rfl rfl) hr rfl T.M__law_made T.F__law_made.kp T.B__law_made (da_cons (df_var 3) (da_cons (df_var 10) (da_cons (df_var 12) da_nil))) (aCons_len (aCons_len (aCons_len (fun _ _ h => aNil_len h))))))))
    (dss_one (ds_thaw 6 [8] [0, 1, 2, 3, 4, 5, 7, 9, 10, 11, 12, 13, 14] (ds_for (ix := [8]) (passes_of rfl) rfl (di_seq (df_de (de_add (dl_de (de_slice (dl_df (df_var 6)) (do_some (dv_df (df_sub (dv_df (df_var 7)) (dv_df df_int)))) (do_some (dv_de (de_add (dl_df (df_var 7)) (dl_df df_int)))))) (dl_de (de_slice (dl_df (df_var 6)) (do_some (dv_df df_int)) do_none))))) (dg_name 8 sc_law.nd)
    (dss_one (ds_if (dt_not (dt_val (dv_de (de_call G.g__law_begins (takes_of rfl rfl rfl rfl) hr rfl T.M__law_begins T.F__law_begins.kp T.B__law_begins (da_cons (df_ix (dl_dp (dp_var 8)) (dv_df (df_var 10))) (da_cons (df_var 13) da_nil)) (aCons_len (aCons_len (fun _ _ h => aNil_len h)))))))
    (dss_one (ds_ret (de_df df_bl)))
    dss_nil)))))))))))
    (dss_cons (ds_forOwn 6 8 (passes_of rfl) rfl sc_law.nd (dss_cons (ds_revS 8)
    (dss_one (ds_app 8 (de_df (df_tup (da_cons df_str da_nil)))))))
    (dss_cons (ds_set 14 sc_law.nd (de_df (df_de (de_add (dl_de (de_lst (da_cons (df_de (de_call G.g_commons (takes_of rfl rfl rfl rfl) hr rfl T.M_commons T.F_commons.kp T.B_commons (da_cons (df_var 4) da_nil) (aCons_len (fun _ _ h => aNil_len h)))) da_nil))) (dl_df (df_de (de_lc (own := [("_law_k", 11)]) (ix := [11]) rfl sc_law.nd (di_range1 rfl T.z_range (da_cons df_int da_nil)) (blkOk_by (N := N_law) (sc := defScope s_law) (by decide +kernel)) (fun _ _ _ _ _ => (dg_name 11 sc_law.nd)) (fun _ _ _ _ _ => dts_nil) (fun _ _ _ _ _ => (de_call G.g_commons_within takes0 hr rfl T.M_commons_within T.F_commons_within.kp T.B_commons_within (da_cons (df_var 4) (da_cons (df_sub (dv_df df_int) (dv_df (df_var 11))) da_nil)) (aCons_len (aCons_len (fun _ _ h => aNil_len h))))))))))))
    (dss_one (ds_ret (de_df (df_and (dv_df (df_eq (room_eq hr) (dv_de (de_listRev rfl rfl T.z_list rfl T.z_reversed (dl_df (df_var 14)))) (dv_dp (dp_var 9)))) (df_one (df_eq (room_eq hr) (dv_df (df_var 4)) (dv_df (df_var 3)))))))))))))))))))
theorem fn_none {f : Addr} {fd : FuncData} {ps : List Str} {k i : Nat} : FnOk P w K mg base (L2.CX P w) 0 f fd ps (spM ⟨K, w⟩ mg k (mir 0 i)) := by
  have no : ∀ vs H Q E, ¬ spM ⟨K, w⟩ mg k (mir 0 i) vs H Q E := fun vs H Q E ⟨F, ds, _, _, _, h⟩ => h
  exact ⟨fun vs H Q E h => absurd h (no vs H Q E), fun A outer s H args us vs Q E _ _ _ _ h => absurd h (no vs H Q E)⟩
theorem fn_noneK {f : Addr} {fd : FuncData} {ps : List Str} {k i : Nat} : FnOk P w K mg base (L2.CX P w) 0 f fd ps (spK ⟨K, w⟩ k (mir 0 i)) := by
  have no : ∀ vs H Q E, ¬ spK ⟨K, w⟩ k (mir 0 i) vs H Q E := fun vs H Q E ⟨F, a, xs, ws, dk, ds, _, _, _, _, _, _, _, h⟩ => h
  exact ⟨fun vs H Q E h => absurd h (no vs H Q E), fun A outer s H args us vs Q E _ _ _ _ h => absurd h (no vs H Q E)⟩
theorem all_fns (T : Txt K mg f fd) : ∀ n, Fns P w K mg base f fd n
  | 0 => ⟨fn_none, fn_none, fn_none, fn_none, fn_none, fn_none, fn_none, fn_none, fn_none, fn_none, fn_noneK, fn_noneK, fn_none, fn_noneK, fn_none, fn_noneK, fn_noneK, fn_none, fn_noneK, fn_noneK, fn_none, fn_none, fn_none, fn_none, fn_none, fn_none, fn_none, fn_noneK, fn_none, fn_none, fn_none⟩
  | n + 1 => by
    have G := all_fns T n
    exact ⟨ok_met T G, ok_rows_of T G, ok_stump_in T G, ok_met_of T G, ok_first_commons T G, ok_next_commons T G, ok_by_levels T G, ok_commons_within T G, ok_commons T G, ok__law_numbers T G, ok__law_draw T G, ok__law_mark T G, ok__law_name T G, ok__law_wood T G, ok__law_rows T G, ok__law_term T G, ok__law_changed T G, ok__law_calls T G, ok__law_rule T G, ok__law_turning T G, ok__law_bare T G, ok__law_copy T G, ok__law_whole T G, ok__law_is_stump T G, ok__law_rule_of T G, ok__law_made T G, ok__law_made_by T G, ok__law_tree T G, ok__law_begins T G, ok__law_stumps T G, ok_law T G⟩
end
def pick {α : Type} (z : α) : List α → Nat → α
  | [], _ => z
  | x :: _, 0 => x
  | _ :: xs, n + 1 => pick z xs n
theorem all_mk (L : Nat) {l : PySem.W.OpenLaw} {w : World} {K : PySem.W.Frag} {h : Heap} {mg : Str → Option Value} {fa : Addr} (X : K.In h) (G : h.Ns PySem.mainGlobals mg) (hfa : mg "law" = some (.ref fa))
    {od0 an0 : Option Addr} {sl0 : Array (Option Value)} {oc0 kV0 dc0 pm0 cd0 ct0 : Value} {f0 : Addr}
    (a0 : PySem.W.nsIn K PySem.mainGlobals "met" = some (some (.ref f0))) (l0 : K.lookup f0 = some ⟨oc0, od0, .func (PySem.W.fnOf "met" "met" (defArgs s_met) (defBody s_met) (defScope s_met) .none kV0 dc0 pm0 an0 cd0 ct0), sl0⟩) (c0 : PySem.W.codeIn K cd0 "met" = true) (k0 : PySem.W.keepIn K (.ref f0) = true)
    {od1 an1 : Option Addr} {sl1 : Array (Option Value)} {oc1 kV1 dc1 pm1 cd1 ct1 : Value} {f1 : Addr}
    (a1 : PySem.W.nsIn K PySem.mainGlobals "rows_of" = some (some (.ref f1))) (l1 : K.lookup f1 = some ⟨oc1, od1, .func (PySem.W.fnOf "rows_of" "rows_of" (defArgs s_rows_of) (defBody s_rows_of) (defScope s_rows_of) .none kV1 dc1 pm1 an1 cd1 ct1), sl1⟩) (c1 : PySem.W.codeIn K cd1 "rows_of" = true) (k1 : PySem.W.keepIn K (.ref f1) = true)
    {od2 an2 : Option Addr} {sl2 : Array (Option Value)} {oc2 kV2 dc2 pm2 cd2 ct2 : Value} {f2 : Addr}
    (a2 : PySem.W.nsIn K PySem.mainGlobals "stump_in" = some (some (.ref f2))) (l2 : K.lookup f2 = some ⟨oc2, od2, .func (PySem.W.fnOf "stump_in" "stump_in" (defArgs s_stump_in) (defBody s_stump_in) (defScope s_stump_in) .none kV2 dc2 pm2 an2 cd2 ct2), sl2⟩) (c2 : PySem.W.codeIn K cd2 "stump_in" = true) (k2 : PySem.W.keepIn K (.ref f2) = true)
    {od3 an3 : Option Addr} {sl3 : Array (Option Value)} {oc3 kV3 dc3 pm3 cd3 ct3 : Value} {f3 : Addr}
    (a3 : PySem.W.nsIn K PySem.mainGlobals "met_of" = some (some (.ref f3))) (l3 : K.lookup f3 = some ⟨oc3, od3, .func (PySem.W.fnOf "met_of" "met_of" (defArgs s_met_of) (defBody s_met_of) (defScope s_met_of) .none kV3 dc3 pm3 an3 cd3 ct3), sl3⟩) (c3 : PySem.W.codeIn K cd3 "met_of" = true) (k3 : PySem.W.keepIn K (.ref f3) = true)
    {od4 an4 : Option Addr} {sl4 : Array (Option Value)} {oc4 kV4 dc4 pm4 cd4 ct4 : Value} {f4 : Addr}
    (a4 : PySem.W.nsIn K PySem.mainGlobals "first_commons" = some (some (.ref f4))) (l4 : K.lookup f4 = some ⟨oc4, od4, .func (PySem.W.fnOf "first_commons" "first_commons" (defArgs s_first_commons) (defBody s_first_commons) (defScope s_first_commons) .none kV4 dc4 pm4 an4 cd4 ct4), sl4⟩) (c4 : PySem.W.codeIn K cd4 "first_commons" = true) (k4 : PySem.W.keepIn K (.ref f4) = true)
    {od5 an5 : Option Addr} {sl5 : Array (Option Value)} {oc5 kV5 dc5 pm5 cd5 ct5 : Value} {f5 : Addr}
    (a5 : PySem.W.nsIn K PySem.mainGlobals "next_commons" = some (some (.ref f5))) (l5 : K.lookup f5 = some ⟨oc5, od5, .func (PySem.W.fnOf "next_commons" "next_commons" (defArgs s_next_commons) (defBody s_next_commons) (defScope s_next_commons) .none kV5 dc5 pm5 an5 cd5 ct5), sl5⟩) (c5 : PySem.W.codeIn K cd5 "next_commons" = true) (k5 : PySem.W.keepIn K (.ref f5) = true)
    {od6 an6 : Option Addr} {sl6 : Array (Option Value)} {oc6 kV6 dc6 pm6 cd6 ct6 : Value} {f6 : Addr}
    (a6 : PySem.W.nsIn K PySem.mainGlobals "by_levels" = some (some (.ref f6))) (l6 : K.lookup f6 = some ⟨oc6, od6, .func (PySem.W.fnOf "by_levels" "by_levels" (defArgs s_by_levels) (defBody s_by_levels) (defScope s_by_levels) .none kV6 dc6 pm6 an6 cd6 ct6), sl6⟩) (c6 : PySem.W.codeIn K cd6 "by_levels" = true) (k6 : PySem.W.keepIn K (.ref f6) = true)
    {od7 an7 : Option Addr} {sl7 : Array (Option Value)} {oc7 kV7 dc7 pm7 cd7 ct7 : Value} {f7 : Addr}
    (a7 : PySem.W.nsIn K PySem.mainGlobals "commons_within" = some (some (.ref f7))) (l7 : K.lookup f7 = some ⟨oc7, od7, .func (PySem.W.fnOf "commons_within" "commons_within" (defArgs s_commons_within) (defBody s_commons_within) (defScope s_commons_within) .none kV7 dc7 pm7 an7 cd7 ct7), sl7⟩) (c7 : PySem.W.codeIn K cd7 "commons_within" = true) (k7 : PySem.W.keepIn K (.ref f7) = true)
    {od8 an8 : Option Addr} {sl8 : Array (Option Value)} {oc8 kV8 dc8 pm8 cd8 ct8 : Value} {f8 : Addr}
    (a8 : PySem.W.nsIn K PySem.mainGlobals "commons" = some (some (.ref f8))) (l8 : K.lookup f8 = some ⟨oc8, od8, .func (PySem.W.fnOf "commons" "commons" (defArgs s_commons) (defBody s_commons) (defScope s_commons) .none kV8 dc8 pm8 an8 cd8 ct8), sl8⟩) (c8 : PySem.W.codeIn K cd8 "commons" = true) (k8 : PySem.W.keepIn K (.ref f8) = true)
    {od9 an9 : Option Addr} {sl9 : Array (Option Value)} {oc9 kV9 dc9 pm9 cd9 ct9 : Value} {f9 : Addr}
    (a9 : PySem.W.nsIn K PySem.mainGlobals "_law_numbers" = some (some (.ref f9))) (l9 : K.lookup f9 = some ⟨oc9, od9, .func (PySem.W.fnOf "_law_numbers" "_law_numbers" (defArgs s__law_numbers) (defBody s__law_numbers) (defScope s__law_numbers) .none kV9 dc9 pm9 an9 cd9 ct9), sl9⟩) (c9 : PySem.W.codeIn K cd9 "_law_numbers" = true) (k9 : PySem.W.keepIn K (.ref f9) = true)
    {od10 an10 : Option Addr} {sl10 : Array (Option Value)} {oc10 kV10 dc10 pm10 cd10 ct10 : Value} {f10 : Addr}
    (a10 : PySem.W.nsIn K PySem.mainGlobals "_law_draw" = some (some (.ref f10))) (l10 : K.lookup f10 = some ⟨oc10, od10, .func (PySem.W.fnOf "_law_draw" "_law_draw" (defArgs s__law_draw) (defBody s__law_draw) (defScope s__law_draw) .none kV10 dc10 pm10 an10 cd10 ct10), sl10⟩) (c10 : PySem.W.codeIn K cd10 "_law_draw" = true) (k10 : PySem.W.keepIn K (.ref f10) = true)
    {od11 an11 : Option Addr} {sl11 : Array (Option Value)} {oc11 kV11 dc11 pm11 cd11 ct11 : Value} {f11 : Addr}
    (a11 : PySem.W.nsIn K PySem.mainGlobals "_law_mark" = some (some (.ref f11))) (l11 : K.lookup f11 = some ⟨oc11, od11, .func (PySem.W.fnOf "_law_mark" "_law_mark" (defArgs s__law_mark) (defBody s__law_mark) (defScope s__law_mark) .none kV11 dc11 pm11 an11 cd11 ct11), sl11⟩) (c11 : PySem.W.codeIn K cd11 "_law_mark" = true) (k11 : PySem.W.keepIn K (.ref f11) = true)
    {od12 an12 : Option Addr} {sl12 : Array (Option Value)} {oc12 kV12 dc12 pm12 cd12 ct12 : Value} {f12 : Addr}
    (a12 : PySem.W.nsIn K PySem.mainGlobals "_law_name" = some (some (.ref f12))) (l12 : K.lookup f12 = some ⟨oc12, od12, .func (PySem.W.fnOf "_law_name" "_law_name" (defArgs s__law_name) (defBody s__law_name) (defScope s__law_name) .none kV12 dc12 pm12 an12 cd12 ct12), sl12⟩) (c12 : PySem.W.codeIn K cd12 "_law_name" = true) (k12 : PySem.W.keepIn K (.ref f12) = true)
    {od13 an13 : Option Addr} {sl13 : Array (Option Value)} {oc13 kV13 dc13 pm13 cd13 ct13 : Value} {f13 : Addr}
    (a13 : PySem.W.nsIn K PySem.mainGlobals "_law_wood" = some (some (.ref f13))) (l13 : K.lookup f13 = some ⟨oc13, od13, .func (PySem.W.fnOf "_law_wood" "_law_wood" (defArgs s__law_wood) (defBody s__law_wood) (defScope s__law_wood) .none kV13 dc13 pm13 an13 cd13 ct13), sl13⟩) (c13 : PySem.W.codeIn K cd13 "_law_wood" = true) (k13 : PySem.W.keepIn K (.ref f13) = true)
    {od14 an14 : Option Addr} {sl14 : Array (Option Value)} {oc14 kV14 dc14 pm14 cd14 ct14 : Value} {f14 : Addr}
    (a14 : PySem.W.nsIn K PySem.mainGlobals "_law_rows" = some (some (.ref f14))) (l14 : K.lookup f14 = some ⟨oc14, od14, .func (PySem.W.fnOf "_law_rows" "_law_rows" (defArgs s__law_rows) (defBody s__law_rows) (defScope s__law_rows) .none kV14 dc14 pm14 an14 cd14 ct14), sl14⟩) (c14 : PySem.W.codeIn K cd14 "_law_rows" = true) (k14 : PySem.W.keepIn K (.ref f14) = true)
    {od15 an15 : Option Addr} {sl15 : Array (Option Value)} {oc15 kV15 dc15 pm15 cd15 ct15 : Value} {f15 : Addr}
    (a15 : PySem.W.nsIn K PySem.mainGlobals "_law_term" = some (some (.ref f15))) (l15 : K.lookup f15 = some ⟨oc15, od15, .func (PySem.W.fnOf "_law_term" "_law_term" (defArgs s__law_term) (defBody s__law_term) (defScope s__law_term) .none kV15 dc15 pm15 an15 cd15 ct15), sl15⟩) (c15 : PySem.W.codeIn K cd15 "_law_term" = true) (k15 : PySem.W.keepIn K (.ref f15) = true)
    {od16 an16 : Option Addr} {sl16 : Array (Option Value)} {oc16 kV16 dc16 pm16 cd16 ct16 : Value} {f16 : Addr}
    (a16 : PySem.W.nsIn K PySem.mainGlobals "_law_changed" = some (some (.ref f16))) (l16 : K.lookup f16 = some ⟨oc16, od16, .func (PySem.W.fnOf "_law_changed" "_law_changed" (defArgs s__law_changed) (defBody s__law_changed) (defScope s__law_changed) .none kV16 dc16 pm16 an16 cd16 ct16), sl16⟩) (c16 : PySem.W.codeIn K cd16 "_law_changed" = true) (k16 : PySem.W.keepIn K (.ref f16) = true)
    {od17 an17 : Option Addr} {sl17 : Array (Option Value)} {oc17 kV17 dc17 pm17 cd17 ct17 : Value} {f17 : Addr}
    (a17 : PySem.W.nsIn K PySem.mainGlobals "_law_calls" = some (some (.ref f17))) (l17 : K.lookup f17 = some ⟨oc17, od17, .func (PySem.W.fnOf "_law_calls" "_law_calls" (defArgs s__law_calls) (defBody s__law_calls) (defScope s__law_calls) .none kV17 dc17 pm17 an17 cd17 ct17), sl17⟩) (c17 : PySem.W.codeIn K cd17 "_law_calls" = true) (k17 : PySem.W.keepIn K (.ref f17) = true)
    {od18 an18 : Option Addr} {sl18 : Array (Option Value)} {oc18 kV18 dc18 pm18 cd18 ct18 : Value} {f18 : Addr}
    (a18 : PySem.W.nsIn K PySem.mainGlobals "_law_rule" = some (some (.ref f18))) (l18 : K.lookup f18 = some ⟨oc18, od18, .func (PySem.W.fnOf "_law_rule" "_law_rule" (defArgs s__law_rule) (defBody s__law_rule) (defScope s__law_rule) .none kV18 dc18 pm18 an18 cd18 ct18), sl18⟩) (c18 : PySem.W.codeIn K cd18 "_law_rule" = true) (k18 : PySem.W.keepIn K (.ref f18) = true)
    {od19 an19 : Option Addr} {sl19 : Array (Option Value)} {oc19 kV19 dc19 pm19 cd19 ct19 : Value} {f19 : Addr}
    (a19 : PySem.W.nsIn K PySem.mainGlobals "_law_turning" = some (some (.ref f19))) (l19 : K.lookup f19 = some ⟨oc19, od19, .func (PySem.W.fnOf "_law_turning" "_law_turning" (defArgs s__law_turning) (defBody s__law_turning) (defScope s__law_turning) .none kV19 dc19 pm19 an19 cd19 ct19), sl19⟩) (c19 : PySem.W.codeIn K cd19 "_law_turning" = true) (k19 : PySem.W.keepIn K (.ref f19) = true)
    {od20 an20 : Option Addr} {sl20 : Array (Option Value)} {oc20 kV20 dc20 pm20 cd20 ct20 : Value} {f20 : Addr}
    (a20 : PySem.W.nsIn K PySem.mainGlobals "_law_bare" = some (some (.ref f20))) (l20 : K.lookup f20 = some ⟨oc20, od20, .func (PySem.W.fnOf "_law_bare" "_law_bare" (defArgs s__law_bare) (defBody s__law_bare) (defScope s__law_bare) .none kV20 dc20 pm20 an20 cd20 ct20), sl20⟩) (c20 : PySem.W.codeIn K cd20 "_law_bare" = true) (k20 : PySem.W.keepIn K (.ref f20) = true)
    {od21 an21 : Option Addr} {sl21 : Array (Option Value)} {oc21 kV21 dc21 pm21 cd21 ct21 : Value} {f21 : Addr}
    (a21 : PySem.W.nsIn K PySem.mainGlobals "_law_copy" = some (some (.ref f21))) (l21 : K.lookup f21 = some ⟨oc21, od21, .func (PySem.W.fnOf "_law_copy" "_law_copy" (defArgs s__law_copy) (defBody s__law_copy) (defScope s__law_copy) .none kV21 dc21 pm21 an21 cd21 ct21), sl21⟩) (c21 : PySem.W.codeIn K cd21 "_law_copy" = true) (k21 : PySem.W.keepIn K (.ref f21) = true)
    {od22 an22 : Option Addr} {sl22 : Array (Option Value)} {oc22 kV22 dc22 pm22 cd22 ct22 : Value} {f22 : Addr}
    (a22 : PySem.W.nsIn K PySem.mainGlobals "_law_whole" = some (some (.ref f22))) (l22 : K.lookup f22 = some ⟨oc22, od22, .func (PySem.W.fnOf "_law_whole" "_law_whole" (defArgs s__law_whole) (defBody s__law_whole) (defScope s__law_whole) .none kV22 dc22 pm22 an22 cd22 ct22), sl22⟩) (c22 : PySem.W.codeIn K cd22 "_law_whole" = true) (k22 : PySem.W.keepIn K (.ref f22) = true)
    {od23 an23 : Option Addr} {sl23 : Array (Option Value)} {oc23 kV23 dc23 pm23 cd23 ct23 : Value} {f23 : Addr}
    (a23 : PySem.W.nsIn K PySem.mainGlobals "_law_is_stump" = some (some (.ref f23))) (l23 : K.lookup f23 = some ⟨oc23, od23, .func (PySem.W.fnOf "_law_is_stump" "_law_is_stump" (defArgs s__law_is_stump) (defBody s__law_is_stump) (defScope s__law_is_stump) .none kV23 dc23 pm23 an23 cd23 ct23), sl23⟩) (c23 : PySem.W.codeIn K cd23 "_law_is_stump" = true) (k23 : PySem.W.keepIn K (.ref f23) = true)
    {od24 an24 : Option Addr} {sl24 : Array (Option Value)} {oc24 kV24 dc24 pm24 cd24 ct24 : Value} {f24 : Addr}
    (a24 : PySem.W.nsIn K PySem.mainGlobals "_law_rule_of" = some (some (.ref f24))) (l24 : K.lookup f24 = some ⟨oc24, od24, .func (PySem.W.fnOf "_law_rule_of" "_law_rule_of" (defArgs s__law_rule_of) (defBody s__law_rule_of) (defScope s__law_rule_of) .none kV24 dc24 pm24 an24 cd24 ct24), sl24⟩) (c24 : PySem.W.codeIn K cd24 "_law_rule_of" = true) (k24 : PySem.W.keepIn K (.ref f24) = true)
    {od25 an25 : Option Addr} {sl25 : Array (Option Value)} {oc25 kV25 dc25 pm25 cd25 ct25 : Value} {f25 : Addr}
    (a25 : PySem.W.nsIn K PySem.mainGlobals "_law_made" = some (some (.ref f25))) (l25 : K.lookup f25 = some ⟨oc25, od25, .func (PySem.W.fnOf "_law_made" "_law_made" (defArgs s__law_made) (defBody s__law_made) (defScope s__law_made) .none kV25 dc25 pm25 an25 cd25 ct25), sl25⟩) (c25 : PySem.W.codeIn K cd25 "_law_made" = true) (k25 : PySem.W.keepIn K (.ref f25) = true)
    {od26 an26 : Option Addr} {sl26 : Array (Option Value)} {oc26 kV26 dc26 pm26 cd26 ct26 : Value} {f26 : Addr}
    (a26 : PySem.W.nsIn K PySem.mainGlobals "_law_made_by" = some (some (.ref f26))) (l26 : K.lookup f26 = some ⟨oc26, od26, .func (PySem.W.fnOf "_law_made_by" "_law_made_by" (defArgs s__law_made_by) (defBody s__law_made_by) (defScope s__law_made_by) .none kV26 dc26 pm26 an26 cd26 ct26), sl26⟩) (c26 : PySem.W.codeIn K cd26 "_law_made_by" = true) (k26 : PySem.W.keepIn K (.ref f26) = true)
    {od27 an27 : Option Addr} {sl27 : Array (Option Value)} {oc27 kV27 dc27 pm27 cd27 ct27 : Value} {f27 : Addr}
    (a27 : PySem.W.nsIn K PySem.mainGlobals "_law_tree" = some (some (.ref f27))) (l27 : K.lookup f27 = some ⟨oc27, od27, .func (PySem.W.fnOf "_law_tree" "_law_tree" (defArgs s__law_tree) (defBody s__law_tree) (defScope s__law_tree) .none kV27 dc27 pm27 an27 cd27 ct27), sl27⟩) (c27 : PySem.W.codeIn K cd27 "_law_tree" = true) (k27 : PySem.W.keepIn K (.ref f27) = true)
    {od28 an28 : Option Addr} {sl28 : Array (Option Value)} {oc28 kV28 dc28 pm28 cd28 ct28 : Value} {f28 : Addr}
    (a28 : PySem.W.nsIn K PySem.mainGlobals "_law_begins" = some (some (.ref f28))) (l28 : K.lookup f28 = some ⟨oc28, od28, .func (PySem.W.fnOf "_law_begins" "_law_begins" (defArgs s__law_begins) (defBody s__law_begins) (defScope s__law_begins) .none kV28 dc28 pm28 an28 cd28 ct28), sl28⟩) (c28 : PySem.W.codeIn K cd28 "_law_begins" = true) (k28 : PySem.W.keepIn K (.ref f28) = true)
    {od29 an29 : Option Addr} {sl29 : Array (Option Value)} {oc29 kV29 dc29 pm29 cd29 ct29 : Value} {f29 : Addr}
    (a29 : PySem.W.nsIn K PySem.mainGlobals "_law_stumps" = some (some (.ref f29))) (l29 : K.lookup f29 = some ⟨oc29, od29, .func (PySem.W.fnOf "_law_stumps" "_law_stumps" (defArgs s__law_stumps) (defBody s__law_stumps) (defScope s__law_stumps) .none kV29 dc29 pm29 an29 cd29 ct29), sl29⟩) (c29 : PySem.W.codeIn K cd29 "_law_stumps" = true) (k29 : PySem.W.keepIn K (.ref f29) = true)
    {od30 an30 : Option Addr} {sl30 : Array (Option Value)} {oc30 kV30 dc30 pm30 cd30 ct30 : Value} {f30 : Addr}
    (a30 : PySem.W.nsIn K PySem.mainGlobals "law" = some (some (.ref f30))) (l30 : K.lookup f30 = some ⟨oc30, od30, .func (PySem.W.fnOf "law" "law" (defArgs s_law) (defBody s_law) (defScope s_law) .none kV30 dc30 pm30 an30 cd30 ct30), sl30⟩) (c30 : PySem.W.codeIn K cd30 "law" = true) (k30 : PySem.W.keepIn K (.ref f30) = true)
    (z_bool : PySem.W.nsIn K PySem.mainGlobals "bool" = some none)
    (z_int : PySem.W.nsIn K PySem.mainGlobals "int" = some none)
    (z_isinstance : PySem.W.nsIn K PySem.mainGlobals "isinstance" = some none)
    (z_len : PySem.W.nsIn K PySem.mainGlobals "len" = some none)
    (z_list : PySem.W.nsIn K PySem.mainGlobals "list" = some none)
    (z_range : PySem.W.nsIn K PySem.mainGlobals "range" = some none)
    (z_reversed : PySem.W.nsIn K PySem.mainGlobals "reversed" = some none)
    (z_sorted : PySem.W.nsIn K PySem.mainGlobals "sorted" = some none)
    (z_str : PySem.W.nsIn K PySem.mainGlobals "str" = some none)
    (z_sum : PySem.W.nsIn K PySem.mainGlobals "sum" = some none)
    (z_tuple : PySem.W.nsIn K PySem.mainGlobals "tuple" = some none)
    (z_zip : PySem.W.nsIn K PySem.mainGlobals "zip" = some none) :
    ∃ fd : FuncData, (∀ (s : Shared) (v : Value), BindsTo s fd ⟨[v], []⟩ [("_law_script", v)]) ∧ ∀ base : Heap, K.In base → base.Ns PySem.mainGlobals mg → FnOk l.prog w K mg base (L2.CX l.prog w) L fa fd ["_law_script"] (spM ⟨K, w⟩ mg 1 (mir L 30)) := by
  have e := hfa.symm.trans (PySem.W.mg_of X G a30)
  cases e
  have F0 := fun_mk (st := s_met) l0 c0 k0
  have F1 := fun_mk (st := s_rows_of) l1 c1 k1
  have F2 := fun_mk (st := s_stump_in) l2 c2 k2
  have F3 := fun_mk (st := s_met_of) l3 c3 k3
  have F4 := fun_mk (st := s_first_commons) l4 c4 k4
  have F5 := fun_mk (st := s_next_commons) l5 c5 k5
  have F6 := fun_mk (st := s_by_levels) l6 c6 k6
  have F7 := fun_mk (st := s_commons_within) l7 c7 k7
  have F8 := fun_mk (st := s_commons) l8 c8 k8
  have F9 := fun_mk (st := s__law_numbers) l9 c9 k9
  have F10 := fun_mk (st := s__law_draw) l10 c10 k10
  have F11 := fun_mk (st := s__law_mark) l11 c11 k11
  have F12 := fun_mk (st := s__law_name) l12 c12 k12
  have F13 := fun_mk (st := s__law_wood) l13 c13 k13
  have F14 := fun_mk (st := s__law_rows) l14 c14 k14
  have F15 := fun_mk (st := s__law_term) l15 c15 k15
  have F16 := fun_mk (st := s__law_changed) l16 c16 k16
  have F17 := fun_mk (st := s__law_calls) l17 c17 k17
  have F18 := fun_mk (st := s__law_rule) l18 c18 k18
  have F19 := fun_mk (st := s__law_turning) l19 c19 k19
  have F20 := fun_mk (st := s__law_bare) l20 c20 k20
  have F21 := fun_mk (st := s__law_copy) l21 c21 k21
  have F22 := fun_mk (st := s__law_whole) l22 c22 k22
  have F23 := fun_mk (st := s__law_is_stump) l23 c23 k23
  have F24 := fun_mk (st := s__law_rule_of) l24 c24 k24
  have F25 := fun_mk (st := s__law_made) l25 c25 k25
  have F26 := fun_mk (st := s__law_made_by) l26 c26 k26
  have F27 := fun_mk (st := s__law_tree) l27 c27 k27
  have F28 := fun_mk (st := s__law_begins) l28 c28 k28
  have F29 := fun_mk (st := s__law_stumps) l29 c29 k29
  have F30 := fun_mk (st := s_law) l30 c30 k30
  have T : Txt K mg (pick 0 [f0, f1, f2, f3, f4, f5, f6, f7, f8, f9, f10, f11, f12, f13, f14, f15, f16, f17, f18, f19, f20, f21, f22, f23, f24, f25, f26, f27, f28, f29, fa]) (pick (PySem.W.fnOf "law" "law" (defArgs s_law) (defBody s_law) (defScope s_law) .none kV30 dc30 pm30 an30 cd30 ct30) [PySem.W.fnOf "met" "met" (defArgs s_met) (defBody s_met) (defScope s_met) .none kV0 dc0 pm0 an0 cd0 ct0, PySem.W.fnOf "rows_of" "rows_of" (defArgs s_rows_of) (defBody s_rows_of) (defScope s_rows_of) .none kV1 dc1 pm1 an1 cd1 ct1, PySem.W.fnOf "stump_in" "stump_in" (defArgs s_stump_in) (defBody s_stump_in) (defScope s_stump_in) .none kV2 dc2 pm2 an2 cd2 ct2, PySem.W.fnOf "met_of" "met_of" (defArgs s_met_of) (defBody s_met_of) (defScope s_met_of) .none kV3 dc3 pm3 an3 cd3 ct3, PySem.W.fnOf "first_commons" "first_commons" (defArgs s_first_commons) (defBody s_first_commons) (defScope s_first_commons) .none kV4 dc4 pm4 an4 cd4 ct4, PySem.W.fnOf "next_commons" "next_commons" (defArgs s_next_commons) (defBody s_next_commons) (defScope s_next_commons) .none kV5 dc5 pm5 an5 cd5 ct5, PySem.W.fnOf "by_levels" "by_levels" (defArgs s_by_levels) (defBody s_by_levels) (defScope s_by_levels) .none kV6 dc6 pm6 an6 cd6 ct6, PySem.W.fnOf "commons_within" "commons_within" (defArgs s_commons_within) (defBody s_commons_within) (defScope s_commons_within) .none kV7 dc7 pm7 an7 cd7 ct7, PySem.W.fnOf "commons" "commons" (defArgs s_commons) (defBody s_commons) (defScope s_commons) .none kV8 dc8 pm8 an8 cd8 ct8, PySem.W.fnOf "_law_numbers" "_law_numbers" (defArgs s__law_numbers) (defBody s__law_numbers) (defScope s__law_numbers) .none kV9 dc9 pm9 an9 cd9 ct9, PySem.W.fnOf "_law_draw" "_law_draw" (defArgs s__law_draw) (defBody s__law_draw) (defScope s__law_draw) .none kV10 dc10 pm10 an10 cd10 ct10, PySem.W.fnOf "_law_mark" "_law_mark" (defArgs s__law_mark) (defBody s__law_mark) (defScope s__law_mark) .none kV11 dc11 pm11 an11 cd11 ct11, PySem.W.fnOf "_law_name" "_law_name" (defArgs s__law_name) (defBody s__law_name) (defScope s__law_name) .none kV12 dc12 pm12 an12 cd12 ct12, PySem.W.fnOf "_law_wood" "_law_wood" (defArgs s__law_wood) (defBody s__law_wood) (defScope s__law_wood) .none kV13 dc13 pm13 an13 cd13 ct13, PySem.W.fnOf "_law_rows" "_law_rows" (defArgs s__law_rows) (defBody s__law_rows) (defScope s__law_rows) .none kV14 dc14 pm14 an14 cd14 ct14, PySem.W.fnOf "_law_term" "_law_term" (defArgs s__law_term) (defBody s__law_term) (defScope s__law_term) .none kV15 dc15 pm15 an15 cd15 ct15, PySem.W.fnOf "_law_changed" "_law_changed" (defArgs s__law_changed) (defBody s__law_changed) (defScope s__law_changed) .none kV16 dc16 pm16 an16 cd16 ct16, PySem.W.fnOf "_law_calls" "_law_calls" (defArgs s__law_calls) (defBody s__law_calls) (defScope s__law_calls) .none kV17 dc17 pm17 an17 cd17 ct17, PySem.W.fnOf "_law_rule" "_law_rule" (defArgs s__law_rule) (defBody s__law_rule) (defScope s__law_rule) .none kV18 dc18 pm18 an18 cd18 ct18, PySem.W.fnOf "_law_turning" "_law_turning" (defArgs s__law_turning) (defBody s__law_turning) (defScope s__law_turning) .none kV19 dc19 pm19 an19 cd19 ct19, PySem.W.fnOf "_law_bare" "_law_bare" (defArgs s__law_bare) (defBody s__law_bare) (defScope s__law_bare) .none kV20 dc20 pm20 an20 cd20 ct20, PySem.W.fnOf "_law_copy" "_law_copy" (defArgs s__law_copy) (defBody s__law_copy) (defScope s__law_copy) .none kV21 dc21 pm21 an21 cd21 ct21, PySem.W.fnOf "_law_whole" "_law_whole" (defArgs s__law_whole) (defBody s__law_whole) (defScope s__law_whole) .none kV22 dc22 pm22 an22 cd22 ct22, PySem.W.fnOf "_law_is_stump" "_law_is_stump" (defArgs s__law_is_stump) (defBody s__law_is_stump) (defScope s__law_is_stump) .none kV23 dc23 pm23 an23 cd23 ct23, PySem.W.fnOf "_law_rule_of" "_law_rule_of" (defArgs s__law_rule_of) (defBody s__law_rule_of) (defScope s__law_rule_of) .none kV24 dc24 pm24 an24 cd24 ct24, PySem.W.fnOf "_law_made" "_law_made" (defArgs s__law_made) (defBody s__law_made) (defScope s__law_made) .none kV25 dc25 pm25 an25 cd25 ct25, PySem.W.fnOf "_law_made_by" "_law_made_by" (defArgs s__law_made_by) (defBody s__law_made_by) (defScope s__law_made_by) .none kV26 dc26 pm26 an26 cd26 ct26, PySem.W.fnOf "_law_tree" "_law_tree" (defArgs s__law_tree) (defBody s__law_tree) (defScope s__law_tree) .none kV27 dc27 pm27 an27 cd27 ct27, PySem.W.fnOf "_law_begins" "_law_begins" (defArgs s__law_begins) (defBody s__law_begins) (defScope s__law_begins) .none kV28 dc28 pm28 an28 cd28 ct28, PySem.W.fnOf "_law_stumps" "_law_stumps" (defArgs s__law_stumps) (defBody s__law_stumps) (defScope s__law_stumps) .none kV29 dc29 pm29 an29 cd29 ct29, PySem.W.fnOf "law" "law" (defArgs s_law) (defBody s_law) (defScope s_law) .none kV30 dc30 pm30 an30 cd30 ct30]) := {
    F_met := F0,
    B_met := F0.binds (ps := ["one", "other"]) fun _ _ _ _ _ _ us hl => match us, hl with | [_, _], _ => rfl,
    M_met := PySem.W.mg_of X G a0,
    F_rows_of := F1,
    B_rows_of := F1.binds (ps := ["wood", "kind"]) fun _ _ _ _ _ _ us hl => match us, hl with | [_, _], _ => rfl,
    M_rows_of := PySem.W.mg_of X G a1,
    F_stump_in := F2,
    B_stump_in := F2.binds (ps := ["term", "stumps"]) fun _ _ _ _ _ _ us hl => match us, hl with | [_, _], _ => rfl,
    M_stump_in := PySem.W.mg_of X G a2,
    F_met_of := F3,
    B_met_of := F3.binds (ps := ["stumps"]) fun _ _ _ _ _ _ us hl => match us, hl with | [_], _ => rfl,
    M_met_of := PySem.W.mg_of X G a3,
    F_first_commons := F4,
    B_first_commons := F4.binds (ps := ["turning"]) fun _ _ _ _ _ _ us hl => match us, hl with | [_], _ => rfl,
    M_first_commons := PySem.W.mg_of X G a4,
    F_next_commons := F5,
    B_next_commons := F5.binds (ps := ["turning", "stumps"]) fun _ _ _ _ _ _ us hl => match us, hl with | [_, _], _ => rfl,
    M_next_commons := PySem.W.mg_of X G a5,
    F_by_levels := F6,
    B_by_levels := F6.binds (ps := ["turning", "most"]) fun _ _ _ _ _ _ us hl => match us, hl with | [_, _], _ => rfl,
    M_by_levels := PySem.W.mg_of X G a6,
    F_commons_within := F7,
    B_commons_within := F7.binds (ps := ["turning", "many"]) fun _ _ _ _ _ _ us hl => match us, hl with | [_, _], _ => rfl,
    M_commons_within := PySem.W.mg_of X G a7,
    F_commons := F8,
    B_commons := F8.binds (ps := ["turning"]) fun _ _ _ _ _ _ us hl => match us, hl with | [_], _ => rfl,
    M_commons := PySem.W.mg_of X G a8,
    F__law_numbers := F9,
    B__law_numbers := F9.binds (ps := ["_law_script", "_law_most"]) fun _ _ _ _ _ _ us hl => match us, hl with | [_, _], _ => rfl,
    M__law_numbers := PySem.W.mg_of X G a9,
    F__law_draw := F10,
    B__law_draw := F10.binds (ps := ["_law_deck", "_law_most"]) fun _ _ _ _ _ _ us hl => match us, hl with | [_, _], _ => rfl,
    M__law_draw := PySem.W.mg_of X G a10,
    F__law_mark := F11,
    B__law_mark := F11.binds (ps := ["_law_deck"]) fun _ _ _ _ _ _ us hl => match us, hl with | [_], _ => rfl,
    M__law_mark := PySem.W.mg_of X G a11,
    F__law_name := F12,
    B__law_name := F12.binds (ps := ["_law_code", "_law_k"]) fun _ _ _ _ _ _ us hl => match us, hl with | [_, _], _ => rfl,
    M__law_name := PySem.W.mg_of X G a12,
    F__law_wood := F13,
    B__law_wood := F13.binds (ps := ["_law_deck", "_law_code"]) fun _ _ _ _ _ _ us hl => match us, hl with | [_, _], _ => rfl,
    M__law_wood := PySem.W.mg_of X G a13,
    F__law_rows := F14,
    B__law_rows := F14.binds (ps := ["_law_wood_here", "_law_kind"]) fun _ _ _ _ _ _ us hl => match us, hl with | [_, _], _ => rfl,
    M__law_rows := PySem.W.mg_of X G a14,
    F__law_term := F15,
    B__law_term := F15.binds (ps := ["_law_deck", "_law_code", "_law_calls_here", "_law_deep"]) fun _ _ _ _ _ _ us hl => match us, hl with | [_, _, _, _], _ => rfl,
    M__law_term := PySem.W.mg_of X G a15,
    F__law_changed := F16,
    B__law_changed := F16.binds (ps := ["_law_deck", "_law_code", "_law_term_here", "_law_calls_here"]) fun _ _ _ _ _ _ us hl => match us, hl with | [_, _, _, _], _ => rfl,
    M__law_changed := PySem.W.mg_of X G a16,
    F__law_calls := F17,
    B__law_calls := F17.binds (ps := ["_law_kinds", "_law_branches"]) fun _ _ _ _ _ _ us hl => match us, hl with | [_, _], _ => rfl,
    M__law_calls := PySem.W.mg_of X G a17,
    F__law_rule := F18,
    B__law_rule := F18.binds (ps := ["_law_deck", "_law_code", "_law_base", "_law_calls_here"]) fun _ _ _ _ _ _ us hl => match us, hl with | [_, _, _, _], _ => rfl,
    M__law_rule := PySem.W.mg_of X G a18,
    F__law_turning := F19,
    B__law_turning := F19.binds (ps := ["_law_deck", "_law_code", "_law_wood_here"]) fun _ _ _ _ _ _ us hl => match us, hl with | [_, _, _], _ => rfl,
    M__law_turning := PySem.W.mg_of X G a19,
    F__law_bare := F20,
    B__law_bare := F20.binds (ps := ["_law_term_here"]) fun _ _ _ _ _ _ us hl => match us, hl with | [_], _ => rfl,
    M__law_bare := PySem.W.mg_of X G a20,
    F__law_copy := F21,
    B__law_copy := F21.binds (ps := ["_law_turning_here"]) fun _ _ _ _ _ _ us hl => match us, hl with | [_], _ => rfl,
    M__law_copy := PySem.W.mg_of X G a21,
    F__law_whole := F22,
    B__law_whole := F22.binds (ps := ["_law_found"]) fun _ _ _ _ _ _ us hl => match us, hl with | [_], _ => rfl,
    M__law_whole := PySem.W.mg_of X G a22,
    F__law_is_stump := F23,
    B__law_is_stump := F23.binds (ps := ["_law_found"]) fun _ _ _ _ _ _ us hl => match us, hl with | [_], _ => rfl,
    M__law_is_stump := PySem.W.mg_of X G a23,
    F__law_rule_of := F24,
    B__law_rule_of := F24.binds (ps := ["_law_turning_here", "_law_mode", "_law_name_here"]) fun _ _ _ _ _ _ us hl => match us, hl with | [_, _, _], _ => rfl,
    M__law_rule_of := PySem.W.mg_of X G a24,
    F__law_made := F25,
    B__law_made := F25.binds (ps := ["_law_turning_here", "_law_mode", "_law_tree_here"]) fun _ _ _ _ _ _ us hl => match us, hl with | [_, _, _], _ => rfl,
    M__law_made := PySem.W.mg_of X G a25,
    F__law_made_by := F26,
    B__law_made_by := F26.binds (ps := ["_law_turning_here", "_law_term_here", "_law_tree_here"]) fun _ _ _ _ _ _ us hl => match us, hl with | [_, _, _], _ => rfl,
    M__law_made_by := PySem.W.mg_of X G a26,
    F__law_tree := F27,
    B__law_tree := F27.binds (ps := ["_law_deck", "_law_wood_here", "_law_kind", "_law_deep"]) fun _ _ _ _ _ _ us hl => match us, hl with | [_, _, _, _], _ => rfl,
    M__law_tree := PySem.W.mg_of X G a27,
    F__law_begins := F28,
    B__law_begins := F28.binds (ps := ["_law_stump", "_law_tree_here"]) fun _ _ _ _ _ _ us hl => match us, hl with | [_, _], _ => rfl,
    M__law_begins := PySem.W.mg_of X G a28,
    F__law_stumps := F29,
    B__law_stumps := F29.binds (ps := ["_law_found", "_law_count"]) fun _ _ _ _ _ _ us hl => match us, hl with | [_, _], _ => rfl,
    M__law_stumps := PySem.W.mg_of X G a29,
    F_law := F30,
    B_law := F30.binds (ps := ["_law_script"]) fun _ _ _ _ _ _ us hl => match us, hl with | [_], _ => rfl,
    M_law := PySem.W.mg_of X G a30,
    z_bool := PySem.W.mg_none_of X G z_bool,
    z_int := PySem.W.mg_none_of X G z_int,
    z_isinstance := PySem.W.mg_none_of X G z_isinstance,
    z_len := PySem.W.mg_none_of X G z_len,
    z_list := PySem.W.mg_none_of X G z_list,
    z_range := PySem.W.mg_none_of X G z_range,
    z_reversed := PySem.W.mg_none_of X G z_reversed,
    z_sorted := PySem.W.mg_none_of X G z_sorted,
    z_str := PySem.W.mg_none_of X G z_str,
    z_sum := PySem.W.mg_none_of X G z_sum,
    z_tuple := PySem.W.mg_none_of X G z_tuple,
    z_zip := PySem.W.mg_none_of X G z_zip }
  refine ⟨PySem.W.fnOf "law" "law" (defArgs s_law) (defBody s_law) (defScope s_law) .none kV30 dc30 pm30 an30 cd30 ct30, fun s v => .of_eq rfl, fun base _ _ => ?_⟩
  exact (all_fns (P := l.prog) (w := w) (base := base) T L).g_law
end G
set_option Elab.async false
set_option linter.all false
set_option maxRecDepth 100000
set_option maxHeartbeats 4000000
namespace G
open PySem PySem.Spec L2 Mir
theorem draws (n : Nat) : Draws (mir (n + 1) 10) := fun dk most h => by
  obtain ⟨r, dk', a, b, c⟩ := draw_fin dk most h
  refine ⟨r, dk', a, b, ?_⟩
  rw [mir__law_draw, run__law_draw]
  exact c
theorem marks (n : Nat) : Marks (mir (n + 2) 11) := fun dk => by
  obtain ⟨z, dk', c⟩ := mark2_fin (draws n) dk
  refine ⟨z, dk', ?_⟩
  rw [mir__law_mark, run__law_mark]
  exact c
theorem names (n : Nat) (code : Int) (h0 : 0 ≤ code) (h1 : code < 1000000) : Names (mir (n + 1) 12) code 900 := fun k k0 k1 => by
  obtain ⟨w, a, b⟩ := name_fin code k h0 (by omega) k0 (by omega)
  refine ⟨w, ?_, b⟩
  rw [mir__law_name, run__law_name]
  exact a
theorem numbers (n : Nat) (ns : List Int) (hl : ns.length ≤ 63) : ∃ dk, mir (n + 1) 9 [.list (ns.map PyData.int), .int 1000] = .ok (dkO dk) := by
  obtain ⟨dk, h⟩ := numbers_fin 48271 (by decide) (by decide) ns 1000 (by decide) (by omega)
  refine ⟨dk, ?_⟩
  rw [mir__law_numbers, run__law_numbers]
  exact h
theorem met_ok : ∀ (n : Nat) (s t : Stp), levS s ≤ n → okS s → mir n 0 [encS s, encS t] = .ok (.d (encS (met s t)))
  | 0, s, t, h, _ => by have := levS_pos s; omega
  | n + 1, s, t, h, ok => by
    rw [mir_met, run_met]
    refine met_fin s t fun nm k ps qs e e' => ?_
    subst e
    rw [levS] at h
    rw [okS, okSs_iff] at ok
    exact ⟨ok.2.1, fun p hp q hq => met_ok n p q (levSs_le (by omega) p hp) (ok.2.2 p hp)⟩
theorem rows_ok (n : Nat) (w : Wood) (k : Str) : ∃ o, mir (n + 1) 1 [encWd w, .str k] = .ok o ∧ viewD o = .list ((rowsOf w k).map encRw) := by
  obtain ⟨o, h1, h2⟩ := rowsOf_fin w k
  refine ⟨o, ?_, h2⟩
  rw [mir_rows_of, run_rows_of]
  exact h1
theorem stump_ok (S : PyData) (ss : List Stp) : ∀ (n : Nat) (t : Trm), levM t ≤ n → okM t → (∀ c ∈ callsM t, gIx S (.int c.1) = some (encS (ss.getD c.1.toNat .op))) → mir n 2 [encM t, S] = .ok (.d (encS (stIn ss t)))
  | 0, .call m b, h, _, _ => by rw [levM] at h; omega
  | 0, .put nm kp ad ps, h, _, _ => by rw [levM] at h; omega
  | n + 1, t, h, ok, hc => by
    rw [mir_stump_in, run_stump_in]
    refine stumpIn_fin S ss t (fun m b e => ?_) fun nm kp ad ps e => ?_
    · subst e
      exact hc (m, b) (by rw [callsM]; exact List.mem_cons_self)
    · subst e
      rw [levM] at h
      rw [okM, okMs_iff] at ok
      refine ⟨ok.2.1, fun _ p hp => stump_ok S ss n p (levMs_le (by omega) p hp) (ok.2.2 p hp) fun c hcc => hc c ?_⟩
      rw [callsM, callsMs_flat]
      exact List.mem_flatten.mpr ⟨callsM p, List.mem_map_of_mem hp, hcc⟩
def Pg (s : Stp) : Prop := okS s ∧ levS s ≤ 30
theorem pg_met {a b : Stp} (h : Pg a) : Pg (met a b) := ⟨Mir.ok_met a b h.1, by have := lev_met a b; have := h.2; omega⟩
theorem metOf_ok (n : Nat) (ss : List Stp) (hne : ss ≠ []) (h : ∀ s ∈ ss, Pg s) : mir (n + 31) 3 [stD ss] = .ok (.d (encS (metOf ss))) := by
  rw [mir_met_of, run_met_of]
  exact metOf_fin hne Pg h fun a b ha hb => ⟨met_ok (n + 30) a b (by have := ha.2; omega) ha.1, pg_met ha⟩
section
variable {t : Trn} (ok : TnOk t)
include ok
theorem calls_at (ss : List Stp) (hl : ss.length = t.modes.length) (p : Str × List Trm) (hp : p ∈ t.modes) (r : Trm) (hr : r ∈ p.2) : ∀ c ∈ callsM r, gIx (stD ss) (.int c.1) = some (encS (ss.getD c.1.toNat .op)) := fun c hc => by
  obtain ⟨_, _, _, o4⟩ := ok.term p hp r hr
  obtain ⟨a, b⟩ := o4 c hc
  exact at_stumps a (by omega)
theorem pg_tab (n : Nat) (r : Trm) (h1 : okM r) (h2 : levM r ≤ 10) : Pg (stIn (tab (mds t) n) r) := by
  have tg := tab_good ok n
  refine ⟨stIn_ok (fun s hs => (tg s hs).1) r h1, ?_⟩
  have := stIn_lev (L := 11) (by decide) (fun s hs => (tg s hs).2) r
  omega
theorem pg_nil (r : Trm) (h1 : okM r) (h2 : levM r ≤ 10) : Pg (stIn [] r) := by
  refine ⟨stIn_ok (fun s hs => by cases hs) r h1, ?_⟩
  have := stIn_lev (ss := []) (L := 1) (Nat.le_refl _) (fun s hs => by cases hs) r
  omega
theorem parts_ok (n : Nat) : Parts t (mir (n + 31) 1) (mir (n + 31) 2) (mir (n + 31) 3) where
  rows := fun p hp => rows_ok (n + 30) t.wood p.1
  bare := fun p hp r hr hc => by
    obtain ⟨o1, o2, _, _⟩ := ok.term p hp r hr
    exact stump_ok (.list []) [] (n + 31) r (by omega) o1 fun c hcc => by rw [hc] at hcc; cases hcc
  stump := fun p hp r hr ss hl => by
    obtain ⟨o1, o2, _, _⟩ := ok.term p hp r hr
    exact stump_ok (stD ss) ss (n + 31) r (by omega) o1 (calls_at ok ss hl p hp r hr)
  met0 := fun p hp => metOf_ok n _ (by
    have := (ok.bare p hp).1
    simpa using this) fun s hs => by
      obtain ⟨r, hr, rfl⟩ := List.mem_map.mp hs
      obtain ⟨o1, o2, _, _⟩ := ok.term p hp r (bares_in r hr)
      exact pg_nil ok r o1 o2
  metN := fun p hp k => metOf_ok n _ (by
    have h1 := (ok.bare p hp).1
    intro z
    have z2 : p.2 = [] := by simpa using z
    apply h1
    rw [bares_zip, z2]
    simp) fun s hs => by
      obtain ⟨r, hr, rfl⟩ := List.mem_map.mp hs
      obtain ⟨o1, o2, _, _⟩ := ok.term p hp r hr
      exact pg_tab ok k r o1 o2
theorem first_ok (n : Nat) : mir (n + 32) 4 [encTn t] = .ok (stO (tab (mds t) 0)) := by
  rw [mir_first_commons, run_first_commons]
  exact first_fin ok (parts_ok ok n)
theorem next_ok (n k : Nat) : mir (n + 32) 5 [encTn t, stD (tab (mds t) k)] = .ok (stO (tab (mds t) (k + 1))) := by
  rw [mir_next_commons, run_next_commons]
  exact next_fin ok (parts_ok ok n) k
theorem levels_ok {N : Nat} (hN : N ≤ 100000) (h1 : tab (mds t) (N + 1) = tab (mds t) N) (h2 : ∀ i, i < N → tab (mds t) (i + 1) ≠ tab (mds t) i) (n : Nat) (most : Int) (hm : 1 ≤ most) : mir (n + 33) 6 [encTn t, .int most] = .ok (tbO (mds t) (howMany N most)) := by
  rw [mir_by_levels, run_by_levels]
  exact levels_fin ok (first_ok ok n) (next_ok ok n) hN h1 h2 most hm
theorem within_ok {N : Nat} (hN : N ≤ 100000) (h1 : tab (mds t) (N + 1) = tab (mds t) N) (h2 : ∀ i, i < N → tab (mds t) (i + 1) ≠ tab (mds t) i) (n : Nat) (most : Int) (hm : 1 ≤ most) : mir (n + 34) 7 [encTn t, .int most] = .ok (stO (tab (mds t) (howMany N most - 1))) := by
  have hk : 1 ≤ howMany N most := by
    unfold howMany
    split <;> omega
  rw [mir_commons_within, run_commons_within]
  refine within_fin (k := howMany N most - 1) ?_
  rw [Nat.sub_add_cancel hk]
  exact levels_ok ok hN h1 h2 n most hm
end
theorem whole_ok (n : Nat) (i : Int) : mir (n + 1) 22 [.int i] = .ok (.d (.bool true)) := by
  rw [mir__law_whole, run__law_whole]
  simp
theorem isStump_ok : ∀ (n : Nat) (s : Stp), levS s ≤ n → levS s ≤ 60 → okS s → mir (n + 1) 23 [encS s] = .ok (.d (.bool true))
  | 0, s, h, _, _ => by have := levS_pos s; omega
  | n + 1, s, h, h6, ok => by
    rw [mir__law_is_stump, run__law_is_stump]
    refine isStump_fin (whole_ok n) s ok h6 fun nm k ps e p hp => ?_
    subst e
    rw [levS] at h h6
    rw [okS, okSs_iff] at ok
    exact isStump_ok n p (levSs_le (by omega) p hp) (levSs_le (by omega) p hp) (ok.2.2 p hp)
theorem term_ok (code : Int) (h0 : 0 ≤ code) (h1 : code < 1000000) (cs : List (Int × Int)) : ∀ (M n : Nat) (e : Int) (N : Nat) (dk : List Int), n ≤ M → M ≤ 100 → e ≤ n → ∃ t dk', TermIn cs n t ∧ mir (N + M + 3) 15 (dkD dk :: [.int code, caD cs, .int e]) = tells (encM t) dk'
  | 0, n, e, N, dk, hn, _, he => by
    obtain rfl : n = 0 := by omega
    obtain ⟨t, dk', a, b⟩ := term_fin (fr := mir (N + 2) 15) (draws (N + 1)) (marks N) code (names (N + 1) code h0 h1) cs e 0 he (by decide) (fun _ _ _ h => absurd h (Nat.not_lt_zero _)) dk
    refine ⟨t, dk', a, ?_⟩
    rw [show N + 0 + 3 = (N + 2) + 1 from rfl, mir__law_term, run__law_term]
    exact b
  | M + 1, n, e, N, dk, hn, hM, he => by
    obtain ⟨t, dk', a, b⟩ := term_fin (fr := mir (N + M + 3) 15) (draws (N + M + 2)) (marks (N + M + 1)) code (names (N + M + 2) code h0 h1) cs e n he (by omega) (fun e' m _ hm he' dk => term_ok code h0 h1 cs M m e' N dk (by omega) (by omega) he') dk
    refine ⟨t, dk', a, ?_⟩
    rw [show N + (M + 1) + 3 = (N + M + 3) + 1 from by omega, mir__law_term, run__law_term]
    exact b
theorem changed_ok (code : Int) (h0 : 0 ≤ code) (h1 : code < 1000000) (cs : List (Int × Int)) : ∀ (n : Nat) (u : Trm) (N : Nat) (dk : List Int), okM u → levM u ≤ n + 1 → callsM u = [] → thinM u → ∃ t dk', TermC cs n u t ∧ mir (N + n + 3) 16 (dkD dk :: [.int code, encM u, caD cs]) = tells (encM t) dk'
  | n, .call m b, N, dk, _, _, hc, _ => by rw [callsM] at hc; cases hc
  | 0, .put nm kp ad ps, N, dk, ok, hl, hc, ht => by
    rw [okM] at ok
    rw [levM] at hl
    rw [thinM] at ht
    have pe : ps = [] := by
      cases ps with
      | nil => rfl
      | cons p ps =>
        rw [levMs] at hl
        have : 1 ≤ levM p := by cases p <;> rw [levM] <;> omega
        omega
    obtain ⟨t, dk', a, b⟩ := changed_fin (fr := mir (N + 2) 16) (draws (N + 1)) (marks N) code (names (N + 1) code h0 h1) cs 0 nm kp ad ps ok.1 ht.1 (fun p hp => by rw [pe] at hp; cases hp) dk
    refine ⟨t, dk', a, ?_⟩
    rw [show N + 0 + 3 = (N + 2) + 1 from rfl, mir__law_changed, run__law_changed]
    exact b
  | n + 1, .put nm kp ad ps, N, dk, ok, hl, hc, ht => by
    rw [okM, okMs_iff] at ok
    rw [levM] at hl
    rw [thinM, thinMs_iff] at ht
    rw [callsM, callsMs_flat] at hc
    obtain ⟨t, dk', a, b⟩ := changed_fin (fr := mir (N + n + 3) 16) (draws (N + n + 2)) (marks (N + n + 1)) code (names (N + n + 2) code h0 h1) cs (n + 1) nm kp ad ps ok.1 ht.1 (fun p hp => ⟨Nat.succ_pos n, fun dk => changed_ok code h0 h1 cs n p N dk (ok.2.2 p hp) (levMs_le (by omega) p hp) (by
        have := List.flatten_eq_nil_iff.mp hc (callsM p) (List.mem_map_of_mem hp)
        exact this) (ht.2 p hp)⟩) dk
    refine ⟨t, dk', a, ?_⟩
    rw [show N + (n + 1) + 3 = (N + n + 3) + 1 from by omega, mir__law_changed, run__law_changed]
    exact b
theorem calls_eq (n : Nat) (ks bs : List Str) (hk : ks.length ≤ 100) (hb : bs.length ≤ 100) (B : PyData) (hB : gLen [B] = some (.d (.int (bs.length : Nat)))) (hB2 : ∀ (j : Nat) z, bs[j]? = some z → gIx B (.int (j : Nat)) = some (.str z)) : ∃ cs, mir (n + 1) 17 [.list (ks.map PyData.str), B] = .ok (caO cs) ∧ ∀ c ∈ cs, CallOk ks bs c := by
  obtain ⟨cs, h1, h2⟩ := calls2_fin ks bs hk hb B hB hB2
  refine ⟨cs, ?_, h2⟩
  rw [mir__law_calls, run__law_calls]
  exact h1
theorem bare_ok : ∀ (n : Nat) (t : Trm), levM t ≤ n → okM t → mir n 20 [encM t] = .ok (.d (encM (bareM t)))
  | 0, .call m b, h, _ => by rw [levM] at h; omega
  | 0, .put nm kp ad ps, h, _ => by rw [levM] at h; omega
  | n + 1, t, h, ok => by
    rw [mir__law_bare, run__law_bare]
    refine bare_fin t fun nm kp ad ps e => ?_
    subst e
    rw [levM] at h
    rw [okM, okMs_iff] at ok
    exact ⟨ok.2.1, fun p hp => bare_ok n p (levMs_le (by omega) p hp) (ok.2.2 p hp)⟩
theorem gens_ok (n : Nat) (code : Int) (h0 : 0 ≤ code) (h1 : code < 1000000) (w : Wood) (hw : w.length ≤ 1000) : Gens (mir (n + 30) 10) (mir (n + 30) 15) (mir (n + 30) 14) (mir (n + 30) 18) (mir (n + 30) 17) (mir (n + 30) 20) code w where
  dr := draws (n + 29)
  term := fun cs m hm dk => by
    exact term_ok code h0 h1 cs 27 m (m : Nat) n dk (by omega) (by decide) (Int.le_refl _)
  rows := fun k hk => by
    rw [show n + 30 = (n + 29) + 1 from rfl, mir__law_rows, run__law_rows]
    exact lawRows_fin w hw k hk
  rule := fun cs base hb dk => by
    have hc : callsM base = [] := by
      cases h : callsM base with
      | nil => rfl
      | cons c cs => have := hb.2.2.2.1 c (by rw [h]; exact List.mem_cons_self); cases this
    obtain ⟨t, dk', a, b⟩ := rule_fin (ft := mir (n + 29) 15) (fc := mir (n + 29) 16) (draws (n + 28)) code cs base hb (fun dk => term_ok code h0 h1 cs 26 2 2 n dk (by decide) (by decide) (by decide)) (fun dk => changed_ok code h0 h1 cs 2 base (n + 24) dk hb.1 hb.2.1 hc hb.2.2.2.2) dk
    refine ⟨t, dk', a, ?_⟩
    rw [show n + 30 = (n + 29) + 1 from rfl, mir__law_rule, run__law_rule]
    exact b
  callsT := fun ks bs hk hb => calls_eq (n + 29) ks bs hk hb (.tuple (bs.map PyData.str)) (by
    have : gLen [.tuple (bs.map PyData.str)] = some (Ow.d (.int (bs.map PyData.str).length)) := rfl
    rw [this, List.length_map]) fun j z hz => by
      show atI _ _ = _
      exact atI_natD (by rw [List.getElem?_map, hz]; rfl)
  callsL := fun ks bs hk hb => calls_eq (n + 29) ks bs hk hb (.list (bs.map PyData.str)) (by
    have : gLen [.list (bs.map PyData.str)] = some (Ow.d (.int (bs.map PyData.str).length)) := rfl
    rw [this, List.length_map]) fun j z hz => by
      show atI _ _ = _
      exact atI_natD (by rw [List.getElem?_map, hz]; rfl)
  bare := fun t ok hl => bare_ok (n + 30) t (by omega) ok
theorem names_eq (n : Nat) (code : Int) (h0 : 0 ≤ code) (h1 : code < 1000000) (k : Nat) (hk : k < 900) : mir (n + 1) 12 [.int code, .int (k : Nat)] = .ok (.d (.str (tx (nameL code (k : Nat))))) := by
  rw [mir__law_name, run__law_name]
  exact (name_eq code (k : Nat) h0 (by omega) (by omega) (by omega)).1
theorem wood_ok (n : Nat) (code : Int) (h0 : 0 ≤ code) (h1 : code < 1000000) (dk : List Int) : ∃ (w : Wood) (kn : Nat → Str) (dk' : List Int), WdOk w kn ∧ KnInj kn ∧ mir (n + 2) 13 (dkD dk :: [.int code]) = tells (encWd w) dk' := by
  obtain ⟨w, kn, dk', a, c, b⟩ := wood_fin (draws n) (names n code h0 h1) dk
  refine ⟨w, kn, dk', a, kn_inj h0 (names_eq n code h0 h1) c, ?_⟩
  rw [mir__law_wood, run__law_wood]
  exact b
theorem turning_ok (n : Nat) (code : Int) (h0 : 0 ≤ code) (h1 : code < 1000000) (w : Wood) (kn : Nat → Str) (hw : WdOk w kn) (dk : List Int) : ∃ (t : Trn) (dk' : List Int), t.wood = w ∧ TnMade t ∧ mir (n + 31) 19 (dkD dk :: [.int code, encWd w]) = tells (encTn t) dk' := by
  obtain ⟨t, dk', a, b, c⟩ := turning_fin (gens_ok n code h0 h1 w (by have := hw.few; omega)) hw dk
  refine ⟨t, dk', a, b, ?_⟩
  rw [mir__law_turning, run__law_turning]
  exact c
theorem copy_ok (n : Nat) (t : Trn) (ok : TnOk t) : mir (n + 1) 21 [encTn t] = .ok (.d (encTn t)) := by
  rw [mir__law_copy, run__law_copy]
  exact copy_fin (by have := ok.kinds; omega) (by have := ok.few; omega)
end G
set_option Elab.async false
set_option linter.all false
set_option maxRecDepth 100000
set_option maxHeartbeats 4000000
namespace G
open PySem PySem.Spec L2 Mir
section
variable {t : Trn} (gd : TnGd t)
include gd
theorem lawRowsK_ok (n : Nat) {k : Str} (hk : ∃ q ∈ t.wood, q.1 = k) : mir (n + 1) 14 [encWd t.wood, .str k] = .ok (.d (rwsD (rowsOf t.wood k))) := by
  rw [mir__law_rows, run__law_rows]
  exact lawRows_fin t.wood (by have := gd.ok.kinds; omega) k hk
theorem lawRuleOf_ok (n : Nat) (a : Nat) (p : Str × List Trm) (w : Tr) (ha : t.modes[a]? = some p) (hw : isOf t.wood w p.1 = true) : mir (n + 2) 24 [encTn t, .int (a : Nat), .str (trNm w)] = .ok (.d (encM (ruleF t (a : Int) (trNm w)))) := by
  obtain ⟨i, row, T, r1, r2, r3, r4, _⟩ := rule_at gd ha hw
  rw [r4, ← r3, mir__law_rule_of, run__law_rule_of]
  exact lawRuleOf_fin gd ha (lawRowsK_ok gd n (gd.mkind p (List.mem_of_getElem? ha))) r1 r2
end
section
variable {t : Trn} (gd : TnGd t)
include gd
theorem lawTree_ok : ∀ (d n : Nat) (k : Str) (dk : List Int), 1 ≤ d → (∃ q ∈ t.wood, q.1 = k) → ∃ u dk', (isOf t.wood u k = true ∧ levT u ≤ d) ∧ mir (n + d + 3) 27 (dkD dk :: [encWd t.wood, .str k, .int (d : Nat)]) = tells (encT u) dk'
  | 0, n, k, dk, h, _ => by omega
  | d + 1, n, k, dk, h, hk => by
    obtain ⟨u, dk', a, b⟩ := lawTree_fin (fr := mir (n + d + 3) 27) gd (draws (n + d + 2)) (marks (n + d + 1)) hk (lawRowsK_ok gd (n + d + 2) hk) (d + 1) h (fun h1 z hz dk => by
      obtain ⟨u, dk', a, b⟩ := lawTree_ok d n z dk (by omega) hz
      refine ⟨u, dk', a, ?_⟩
      rw [show (((d + 1 : Nat) : Int) - 1) = ((d : Nat) : Int) from by omega]
      exact b) dk
    refine ⟨u, dk', a, ?_⟩
    rw [show n + (d + 1) + 3 = (n + d + 3) + 1 from by omega, mir__law_tree, run__law_tree]
    exact b
theorem madeBy_ok : ∀ (N : Nat) (u : Tr) (T : Trm) (n j : Nat) (ks : List Str), levT u ≤ n → levM T ≤ j → n * 6 + j + 3 ≤ N → FitT t ks T → okM T → ks.length = (trBs u).length → isOfs t.wood (trBs u) ks = true → mir N 26 [encTn t, encM T, encT u] = .ok (.d (encT (madT t u T))) := by
  intro N
  induction N using Nat.strongRecOn with
  | ind N ih =>
    intro u T n j ks hu hT h hf hok hl hi
    obtain ⟨nm, mk, bs⟩ := u
    obtain ⟨N, rfl⟩ : ∃ N', N = N' + 1 := ⟨N - 1, by omega⟩
    cases T with
    | call m y =>
      rw [mir__law_made_by, run__law_made_by]
      rw [levT] at hu
      obtain ⟨n, rfl⟩ : ∃ n', n = n' + 1 := ⟨n - 1, by omega⟩
      rw [levM] at hT
      obtain ⟨d1, d2, q, d3, d4⟩ := hf (m, y) (by rw [callsM]; exact List.mem_singleton.mpr rfl)
      change 0 ≤ m at d1
      change 0 ≤ y at d2
      change t.modes[m.toNat]? = some q at d3
      change ks[y.toNat]? = some q.1 at d4
      change ks.length = bs.length at hl
      change isOfs t.wood bs ks = true at hi
      obtain ⟨i, rfl⟩ : ∃ i : Nat, y = (i : Int) := ⟨y.toNat, by omega⟩
      obtain ⟨k, rfl⟩ : ∃ k : Nat, m = (k : Int) := ⟨m.toNat, by omega⟩
      rw [Int.toNat_natCast] at d3 d4
      have il : i < bs.length := by
        have := (List.getElem?_eq_some_iff.mp d4).1
        omega
      have hb := List.getElem?_eq_getElem il
      have hbk := isOfs_at hi hb d4
      obtain ⟨i', row, T', r1, r2, r3, r4, r5, r6, r7, r8⟩ := rule_at gd d3 hbk
      rw [madT_call hb]
      have lb : levT bs[i] ≤ n := levTs_le (by omega) _ (List.getElem_mem il)
      refine lawMadeBy_call hb ?_
      obtain ⟨N', rfl⟩ : ∃ N', N = N' + 3 := ⟨N - 3, by omega⟩
      rw [mir__law_made, run__law_made]
      refine lawMade2_fin (lawRuleOf_ok gd N' k q bs[i] d3 hbk) ?_
      rw [r4]
      exact ih (N' + 2) (by omega) bs[i] T' n 3 row.br lb r8.lev (by omega) r7 r8.ok r5 r6
    | put z kp ad ps =>
      rw [mir__law_made_by, run__law_made_by, madT_put]
      rw [levM] at hT
      rw [okM, okMs_iff] at hok
      obtain ⟨j, rfl⟩ : ∃ j', j = j' + 1 := ⟨j - 1, by omega⟩
      exact lawMadeBy_put (madT t (.mk nm mk bs)) hok.2.1 fun p hp => ih N (by omega) _ p n j ks hu (levMs_le (by omega) p hp) (by omega) (fun c hc => hf c (by
        rw [callsM, callsMs_flat]
        exact List.mem_flatten.mpr ⟨callsM p, List.mem_map_of_mem hp, hc⟩)) (hok.2.2 p hp) hl hi
theorem made_ok (n : Nat) {m : Nat} {p : Str × List Trm} (hm : t.modes[m]? = some p) {u : Tr} (hu : isOf t.wood u p.1 = true) (d : Nat) (hl : levT u ≤ d) : mir (n + d * 6 + 8) 25 [encTn t, .int (m : Nat), encT u] = .ok (.d (encT (outT t m u))) := by
  rw [mir__law_made, run__law_made]
  obtain ⟨i', row, T', r1, r2, r3, r4, r5, r6, r7, r8⟩ := rule_at gd hm hu
  refine lawMade2_fin (lawRuleOf_ok gd (n + d * 6 + 5) m p u hm hu) ?_
  unfold outT
  rw [r4]
  exact madeBy_ok gd (n + d * 6 + 7) u T' d 3 row.br hl r8.lev (by omega) r7 r8.ok r5 r6
end
theorem lawBegins_ok : ∀ (n : Nat) (s : Stp) (u : Tr), levS s ≤ n → okS s → beg s u = true → mir n 28 [encS s, encT u] = .ok (.d (.bool true))
  | 0, s, u, h, _, _ => by have := levS_pos s; omega
  | n + 1, s, u, h, ok, hb => by
    rw [mir__law_begins, run__law_begins]
    refine lawBegins_fin s u ok hb fun nm k ps nm' k' bs e1 e2 z hz hzb => ?_
    subst e1
    rw [levS] at h
    rw [okS, okSs_iff] at ok
    have zm := (List.of_mem_zip hz).1
    exact lawBegins_ok n z.1 z.2 (levSs_le (by omega) z.1 zm) (ok.2.2 z.1 zm) hzb
end G
set_option Elab.async false
set_option linter.all false
set_option maxRecDepth 100000
set_option maxHeartbeats 4000000
namespace G
open PySem PySem.Spec L2 Mir
noncomputable section
section
variable {t : Trn} (gd : TnGd t) {N : Nat} (hN : N ≤ 36) (h1 : tab (mds t) (N + 1) = tab (mds t) N) (h2 : ∀ i, i < N → tab (mds t) (i + 1) ≠ tab (mds t) i)
include gd
theorem tab_leT : ∀ d i, leT (tab (mds t) (i + d)) (tab (mds t) i)
  | 0, i => leT_refl _
  | d + 1, i => leT_trans (tab_down (mds t) (mds_ok gd.ok) (i + d)) (tab_leT d i)
/-- an outcome begins with what is common within so many levels, or more -/
theorem out_begJ {m : Nat} {p : Str × List Trm} (hm : t.modes[m]? = some p) {u : Tr} (hu : isOf t.wood u p.1 = true) {j : Nat} (hj : levT u - 1 ≤ j) : beg ((tab (mds t) j).getD m .op) (outT t m u) = true := by
  have lp : 1 ≤ levT u := by obtain ⟨nm, mk, bs⟩ := u; rw [levT]; omega
  have b := out_beg gd (levT u - 1) m p u hm hu (by omega)
  have := tab_leT gd (j - (levT u - 1)) (levT u - 1)
  rw [show levT u - 1 + (j - (levT u - 1)) = j from by omega] at this
  exact beg_leS (leT_at this m) b
/-- the common stumps within d levels -/
def tW (t : Trn) (N d : Nat) : List Stp := tab (mds t) (howMany N (d : Nat) - 1)
include h1
theorem out_begW {m : Nat} {p : Str × List Trm} (hm : t.modes[m]? = some p) {u : Tr} (hu : isOf t.wood u p.1 = true) {d : Nat} (hd : levT u ≤ d) : beg ((tW t N d).getD m .op) (outT t m u) = true := by
  have lp : 1 ≤ levT u := by obtain ⟨nm, mk, bs⟩ := u; rw [levT]; omega
  unfold tW howMany
  split
  · exact out_begJ gd hm hu (by omega)
  · rw [Nat.add_sub_cancel]
    exact out_begN' gd h1 hm hu
omit h1
theorem commons_loopO {f5 : List PyData → R Ow} (h5 : ∀ n, f5 [encTn t, stD (tab (mds t) n)] = .ok (stO (tab (mds t) (n + 1)))) (h1 : tab (mds t) (N + 1) = tab (mds t) N) (h2 : ∀ i, i < N → tab (mds t) (i + 1) ≠ tab (mds t) i) : ∀ (d k n : Nat), k + d = N → d + 2 ≤ n →
    whileN (eB (eBin gNe (eM (eVarO 2) viewD) (eM (eVarO 1) viewD)) asB) (sSeq (sMove 1 2) (sThaw 1 [] [0] (sSet 2 (eB (aCons (eVar 0) (aCons (eVar 1) aNil)) f5)))) n [some (.d (encTn t)), some (stO (tab (mds t) k)), some (stO (tab (mds t) (k + 1)))] = .nx [some (.d (encTn t)), some (stO (tab (mds t) N)), some (stO (tab (mds t) (N + 1)))] := by
  intro d
  induction d with
  | zero =>
    intro k n hk hn
    obtain ⟨n, rfl⟩ : ∃ m, n = m + 1 := ⟨n - 1, by omega⟩
    have : k = N := by omega
    subst this
    have ns : Nice (stD (tab (mds t) k)) := nice_stD (tab_good60 gd.ok k)
    have ne := gNe_self ns
    have v1 := viewD_stO (tab (mds t) k)
    rw [h1]
    have c1 : (eB (eBin gNe (eM (eVarO 2) viewD) (eM (eVarO 1) viewD)) asB) [some (.d (encTn t)), some (stO (tab (mds t) k)), some (stO (tab (mds t) k))] = .ok false := by
      generalize stO (tab (mds t) k) = SO at v1
      simp [v1, ne]
    rw [whileN, c1]
    rfl
  | succ d ih =>
    intro k n hk hn
    obtain ⟨n, rfl⟩ : ∃ m, n = m + 1 := ⟨n - 1, by omega⟩
    have ne := (gEq_stD (tab_good60 gd.ok (k + 1)) (tab_good60 gd.ok k) (h2 k (by omega))).2
    have e5 := h5 (k + 1)
    have v1 := viewD_stO (tab (mds t) k)
    have v2 := viewD_stO (tab (mds t) (k + 1))
    have c1 : (eB (eBin gNe (eM (eVarO 2) viewD) (eM (eVarO 1) viewD)) asB) [some (.d (encTn t)), some (stO (tab (mds t) k)), some (stO (tab (mds t) (k + 1)))] = .ok true := by
      generalize stO (tab (mds t) k) = S1 at v1
      generalize stO (tab (mds t) (k + 1)) = S2 at v2
      simp [v1, v2, ne]
    have c2 : (sSeq (sMove 1 2) (sThaw 1 [] [0] (sSet 2 (eB (aCons (eVar 0) (aCons (eVar 1) aNil)) f5)))) [some (.d (encTn t)), some (stO (tab (mds t) k)), some (stO (tab (mds t) (k + 1)))] = .nx [some (.d (encTn t)), some (stO (tab (mds t) (k + 1))), some (stO (tab (mds t) (k + 1 + 1)))] := by
      refine seq_nx (env1 := [some (.d (encTn t)), some (stO (tab (mds t) (k + 1))), none]) (sMove_of rfl (by show 1 < 3; decide) (by decide)) ?_
      refine (sThaw_nx (i := 1) (o := stO (tab (mds t) (k + 1))) (env' := [some (.d (encTn t)), some (.d (viewD (stO (tab (mds t) (k + 1))))), some (stO (tab (mds t) (k + 1 + 1)))]) rfl ?_ (okThaw_of (okF_cons okK (okF_cons okI (okF_cons (okC (clean_stO _)) okF_nil)))) (by show 1 < 3; decide)).trans rfl
      show (sSet 2 _) [some (.d (encTn t)), some (.d (viewD (stO (tab (mds t) (k + 1))))), none] = _
      rw [v2]
      generalize stO (tab (mds t) (k + 1 + 1)) = SO at e5
      simp [e5]
    rw [whileN, c1, R.st_ok, if_pos rfl, c2]
    exact ih (k + 1) n (by omega) (by omega)
theorem commonsO_ok (hN : N ≤ 100000) (h1 : tab (mds t) (N + 1) = tab (mds t) N) (h2 : ∀ i, i < N → tab (mds t) (i + 1) ≠ tab (mds t) i) (n : Nat) : mir (n + 33) 8 [encTn t] = .ok (stO (tab (mds t) N)) := by
  rw [mir_commons, run_commons]
  have he : envOf 2 [encTn t] = [some (.d (encTn t)), none, none] := rfl
  rw [he]
  have e4 := first_ok gd.ok n
  have e5 := next_ok gd.ok n
  refine fin_step (env1 := [some (.d (encTn t)), some (stO (tab (mds t) 0)), none]) (by
    generalize stO (tab (mds t) 0) = SO at e4
    simp [e4]) ?_
  refine fin_step (env1 := [some (.d (encTn t)), some (stO (tab (mds t) 0)), some (stO (tab (mds t) 1))]) ?_ ?_
  · refine (sThaw_nx (i := 1) (o := stO (tab (mds t) 0)) (env' := [some (.d (encTn t)), some (.d (viewD (stO (tab (mds t) 0)))), some (stO (tab (mds t) 1))]) rfl ?_ (okThaw_of (okF_cons okK (okF_cons okI (okF_cons (okC (clean_stO _)) okF_nil)))) (by show 1 < 3; decide)).trans rfl
    show (sSet 2 _) [some (.d (encTn t)), some (.d (viewD (stO (tab (mds t) 0)))), none] = _
    rw [viewD_stO]
    have e := e5 0
    rw [Nat.zero_add] at e
    generalize stO (tab (mds t) 1) = SO at e
    simp [e]
  refine fin_step (commons_loopO gd e5 h1 h2 N 0 1000000 (by omega) (by omega)) ?_
  rfl
theorem stumps_fin {f23 : List PyData → R Ow} {ss : List Stp} (h : ∀ s ∈ ss, f23 [encS s] = .ok (.d (.bool true))) : finR ((sSeq (sIf (tOrE (tNotE (eB (eB (eVar 0) (gIsi "list")) asB)) (eB (eBin gNe (eM (eCa gLen (aCons (eVar 0) aNil)) viewD) (eVar 1)) asB))
    (sRet (eM (eC (.bool false)) Ow.d))
    sSkip)
    (sSeq (sFor (eB (eVar 0) itD) (gtName 2)
    (sIf (tNotE (eB (eM (eB (aCons (eVar 2) aNil) f23) viewD) asB))
    (sRet (eM (eC (.bool false)) Ow.d))
    sSkip))
    (sRet (eM (eC (.bool true)) Ow.d)))) (envOf 1 [stD ss, .int (ss.length : Nat)])) = .ok (.d (.bool true)) := by
  rw [show envOf 1 [stD ss, .int (ss.length : Nat)] = [some (.d (stD ss)), some (.d (.int (ss.length : Nat))), none] from rfl]
  have li : gIsi "list" (stD ss) = .ok (.bool true) := rfl
  have ln : gLen [stD ss] = some (.d (.int (ss.length : Nat))) := by
    unfold stD
    rw [gLen_list, List.length_map]
  refine fin_step (env1 := [some (.d (stD ss)), some (.d (.int (ss.length : Nat))), none]) (by
    generalize stD ss = S at li ln
    generalize ((ss.length : Nat) : Int) = z at ln
    simp [li, ln]) ?_
  obtain ⟨env', lp, x2, rfl⟩ := forL_map (g := gtName 2) (f := (sIf (tNotE (eB (eM (eB (aCons (eVar 2) aNil) f23) viewD) asB))
    (sRet (eM (eC (.bool false)) Ow.d))
    sSkip)) encS ss (fun i env => ∃ x2, env = [some (.d (stD ss)), some (.d (.int (ss.length : Nat))), x2]) (fun i s env hs ⟨x2, e⟩ => by
      subst e
      have e := h s (List.mem_of_getElem? hs)
      refine ⟨_, rfl, [some (.d (stD ss)), some (.d (.int (ss.length : Nat))), some (.d (encS s))], .inl ?_, _, rfl⟩
      show (sIf _ _ _) [some (.d (stD ss)), some (.d (.int (ss.length : Nat))), some (.d (encS s))] = _
      generalize encS s = S at e
      generalize stD ss = SS
      simp [e]) [some (.d (stD ss)), some (.d (.int (ss.length : Nat))), none] ⟨_, rfl⟩
  refine fin_step (env1 := _) (by
    rw [sFor_eq]
    exact (congrArg (fun r => R.st _ r _) (show (eB (eVar 0) itD) _ = .ok (ss.map encS) from rfl)).trans lp) ?_
  rfl
theorem stumps_ok (n : Nat) (hn : 62 ≤ n) (k : Nat) : mir (n + 1) 29 [stD (tab (mds t) k), .int (t.modes.length : Nat)] = .ok (.d (.bool true)) := by
  rw [mir__law_stumps, run__law_stumps]
  have hl : (tab (mds t) k).length = t.modes.length := by
    rw [tab_len]
    unfold mds
    rw [List.length_map]
  rw [← hl]
  refine stumps_fin gd fun s hs => ?_
  obtain ⟨i, hi⟩ := List.getElem?_of_mem hs
  have := tab_okS gd k i
  rw [List.getD_eq_getElem?_getD, hi, Option.getD_some] at this
  obtain ⟨n, rfl⟩ : ∃ m, n = m + 1 := ⟨n - 1, by omega⟩
  exact isStump_ok n s (by omega) this.2 this.1
end
end
end G
set_option Elab.async false
set_option linter.all false
set_option maxRecDepth 100000
set_option maxHeartbeats 4000000
namespace G
open PySem PySem.Spec L2 Mir
noncomputable section
def tbsO (tt : List (List Stp)) : Ow := .l (tt.map stO)
def tbsD (tt : List (List Stp)) : PyData := .list (tt.map stD)
theorem view_tbs (tt : List (List Stp)) : viewD (tbsO tt) = tbsD tt := by
  unfold tbsO tbsD
  rw [viewD_l, viewAll_map, List.map_map]
  exact congrArg PyData.list (List.map_congr_left fun ss _ => viewD_stO ss)
theorem clean_tbs (tt : List (List Stp)) : cleanO (tbsO tt) = true := by
  unfold tbsO
  rw [cleanO, cleanOs_iff]
  intro o ho
  obtain ⟨ss, _, rfl⟩ := List.mem_map.mp ho
  exact clean_stO ss
theorem clean_dk (dk : List Int) : cleanO (dkO dk) = true := by
  unfold dkO
  refine clean_ls fun x hx => ?_
  obtain ⟨z, _, rfl⟩ := List.mem_map.mp hx
  rw [cleanD]
abbrev lwSt (m : Nat → List PyData → R Ow) : Ev → SR := (sIf (tNotE (eB (eCallV (m 29) (aCons (eM (eVarO 8) viewD) (aCons (eVar 5) aNil))) asB))
    (sRet (eM (eC (.bool false)) Ow.d))
    sSkip)
abbrev lwBg (m : Nat → List PyData → R Ow) : Ev → SR := (sIf (tNotE (eB (eM (eB (aCons (eBin gIx (eB (eVarO 8) shD) (eVar 10)) (aCons (eVar 13) aNil)) (m 28)) viewD) asB))
    (sRet (eM (eC (.bool false)) Ow.d))
    sSkip)
abbrev lwIn (m : Nat → List PyData → R Ow) : Ev → SR := (sSeq (sSet 7 (eM (eM (eBinO gAdd (eC (.int 1)) (eBin gMod (eVar 11) (eC (.int 3)))) viewD) Ow.d))
    (sSeq (sXSet 12 (xCallK (m 27) 1 (xCons (xP (eBin gIx (eVar 3) (eC (.int 0)))) (xCons (xP (eBin gIx (eBin gIx (eBin gIx (eVar 3) (eC (.int 2))) (eVar 10)) (eC (.int 0)))) (xCons (xP (eVar 7)) xNil)))))
    (sSeq (sSet 13 (eM (eM (eB (aCons (eVar 3) (aCons (eVar 10) (aCons (eVar 12) aNil))) (m 25)) viewD) Ow.d))
    (sThaw 6 [8] [0, 1, 2, 3, 4, 5, 7, 9, 10, 11, 12, 13, 14] (sFor (eB (eM (eBinO gAdd (eB (eSl (eVar 6) (eB (eBin gSub (eVar 7) (eC (.int 1))) asI) (eB (eM (eBinO gAdd (eVar 7) (eC (.int 1))) viewD) asI)) shD) (eB (eSl (eVar 6) (eB (eC (.int 4)) asI) oNone) shD)) viewD) itD) (gtName 8)
    (lwBg m))))))
/-- the tables that are looked at for so many levels -/
def some3 (tt : List (List Stp)) (d : Nat) : List (List Stp) := (tt.take (d + 1)).drop (d - 1) ++ tt.drop 4
section
variable {t : Trn} (gd : TnGd t) {N : Nat} (hN : N ≤ 36) (h1 : tab (mds t) (N + 1) = tab (mds t) N) (h2 : ∀ i, i < N → tab (mds t) (i + 1) ≠ tab (mds t) i)
def tt5 (t : Trn) (N : Nat) : List (List Stp) := [tW t N 1, tW t N 2, tW t N 3, tW t N 4, tab (mds t) N]
include gd
theorem tt5_tab (ss : List Stp) (h : ss ∈ tt5 t N) : ∃ k, ss = tab (mds t) k := by
  unfold tt5 at h
  simp only [List.mem_cons, List.not_mem_nil, or_false] at h
  rcases h with rfl | rfl | rfl | rfl | rfl <;> exact ⟨_, rfl⟩
include h1
theorem lwIn_ok (n : Nat) {mo : Nat} {p : Str × List Trm} (hm : t.modes[mo]? = some p) (k : Nat) (S0 : PyData) (code cnt : Int) (kept : List (List Stp)) (x7 x12 x13 : Option Ow) (c7 : ∀ x, x7 = some x → cleanO x = true) (c12 : ∀ x, x12 = some x → cleanO x = true) (c13 : ∀ x, x13 = some x → cleanO x = true) (dk : List Int) :
    ∃ (dk' : List Int) (y7 y12 y13 : Option Ow), (∀ x, y7 = some x → cleanO x = true) ∧ (∀ x, y12 = some x → cleanO x = true) ∧ (∀ x, y13 = some x → cleanO x = true) ∧ lwIn (mir (n + 120)) [some (.d S0), some (dkO dk), some (.d (.int code)), some (.d (encTn t)), some (.d (encTn t)), some (.d (.int cnt)), some (tbsO (tt5 t N)), x7, none, some (tbsO kept), some (.d (.int (mo : Nat))), some (.d (.int (k : Nat))), x12, x13, none] = .nx [some (.d S0), some (dkO dk'), some (.d (.int code)), some (.d (encTn t)), some (.d (encTn t)), some (.d (.int cnt)), some (tbsO (tt5 t N)), y7, none, some (tbsO kept), some (.d (.int (mo : Nat))), some (.d (.int (k : Nat))), y12, y13, none] := by
  obtain ⟨u, dk', ⟨ui, ul⟩, e⟩ := lawTree_ok gd (1 + k % 3) (n + 117 - (1 + k % 3)) p.1 dk (by omega) (gd.mkind p (List.mem_of_getElem? hm))
  rw [show n + 117 - (1 + k % 3) + (1 + k % 3) + 3 = n + 120 from by omega] at e
  have ma := made_ok gd (n + 94) hm ui 3 (by omega)
  have ma : mir (n + 120) 25 [encTn t, .int (mo : Nat), encT u] = .ok (.d (encT (outT t mo u))) := ma
  refine ⟨dk', some (.d (.int ((1 + k % 3 : Nat) : Int))), some (.d (encT u)), some (.d (encT (outT t mo u))), (fun x hx => by cases hx; exact clean_int _), (fun x hx => by cases hx; rw [cleanO]; exact clean_encT u), (fun x hx => by cases hx; rw [cleanO]; exact clean_encT _), ?_⟩
  have i0 := w_ix0 t
  have i2 : gIx (encTn t) (.int 2) = some (moD t.modes) := w_ix2 t
  have im := mo_ix hm
  have ip := mo_ix0 p
  have gm : gMod (.int (k : Nat)) (.int 3) = some (.int ((k : Int) % 3)) := gMod_int (by decide)
  have ek : ((1 + k % 3 : Nat) : Int) = 1 + (k : Int) % 3 := by omega
  refine seq_nx (env1 := [some (.d S0), some (dkO dk), some (.d (.int code)), some (.d (encTn t)), some (.d (encTn t)), some (.d (.int cnt)), some (tbsO (tt5 t N)), some (.d (.int ((1 + k % 3 : Nat) : Int))), none, some (tbsO kept), some (.d (.int (mo : Nat))), some (.d (.int (k : Nat))), x12, x13, none]) (by
    rw [ek]
    generalize tbsO (tt5 t N) = TO
    generalize tbsO kept = KO
    generalize encTn t = TN
    generalize (k : Int) % 3 = r at gm
    generalize some (dkO dk) = a1
    simp [gm]) ?_
  have arg : (xCons (xP (eBin gIx (eVar 3) (eC (.int 0)))) (xCons (xP (eBin gIx (eBin gIx (eBin gIx (eVar 3) (eC (.int 2))) (eVar 10)) (eC (.int 0)))) (xCons (xP (eVar 7)) xNil))) [some (.d S0), some (dkO dk), some (.d (.int code)), some (.d (encTn t)), some (.d (encTn t)), some (.d (.int cnt)), some (tbsO (tt5 t N)), some (.d (.int ((1 + k % 3 : Nat) : Int))), none, some (tbsO kept), some (.d (.int (mo : Nat))), some (.d (.int (k : Nat))), x12, x13, none] = .ok ([encWd t.wood, .str p.1, .int ((1 + k % 3 : Nat) : Int)], [some (.d S0), some (dkO dk), some (.d (.int code)), some (.d (encTn t)), some (.d (encTn t)), some (.d (.int cnt)), some (tbsO (tt5 t N)), some (.d (.int ((1 + k % 3 : Nat) : Int))), none, some (tbsO kept), some (.d (.int (mo : Nat))), some (.d (.int (k : Nat))), x12, x13, none]) := by
    generalize ((1 + k % 3 : Nat) : Int) = r
    generalize tbsO (tt5 t N) = TO
    generalize tbsO kept = KO
    generalize encMo p = P at im ip
    generalize moD t.modes = M at i2 im
    generalize encWd t.wood = W at i0
    generalize some (dkO dk) = a1
    generalize encTn t = TN at i0 i2
    simp [i0, i2, im, ip]
  refine seq_nx (sXSet_of (i := 12) (xCallK_dk (m := mir (n + 120) 27) (i := 1) (dk0 := dk) rfl arg rfl e) (by show 12 < 15; decide)) ?_
  show (sSeq _ _) [some (.d S0), some (dkO dk'), some (.d (.int code)), some (.d (encTn t)), some (.d (encTn t)), some (.d (.int cnt)), some (tbsO (tt5 t N)), some (.d (.int ((1 + k % 3 : Nat) : Int))), none, some (tbsO kept), some (.d (.int (mo : Nat))), some (.d (.int (k : Nat))), some (.d (encT u)), x13, none] = _
  refine seq_nx (env1 := [some (.d S0), some (dkO dk'), some (.d (.int code)), some (.d (encTn t)), some (.d (encTn t)), some (.d (.int cnt)), some (tbsO (tt5 t N)), some (.d (.int ((1 + k % 3 : Nat) : Int))), none, some (tbsO kept), some (.d (.int (mo : Nat))), some (.d (.int (k : Nat))), some (.d (encT u)), some (.d (encT (outT t mo u))), none]) (by
    generalize ((1 + k % 3 : Nat) : Int) = r
    generalize tbsO (tt5 t N) = TO
    generalize tbsO kept = KO
    generalize some (dkO dk') = a1
    generalize encT u = U at ma
    generalize encT (outT t mo u) = O at ma
    generalize encTn t = TN at ma
    simp [ma]) ?_
  -- the loop over the tables
  have vt := view_tbs (tt5 t N)
  obtain ⟨d, hd⟩ : ∃ d, d = 1 + k % 3 := ⟨_, rfl⟩
  rw [← hd] at ul ⊢
  have d1 : 1 ≤ d := by omega
  have d3 : d ≤ 3 := by omega
  have begs : ∀ ss ∈ some3 (tt5 t N) d, (∃ k, ss = tab (mds t) k) ∧ beg (ss.getD mo .op) (outT t mo u) = true := fun ss hs => by
    unfold some3 tt5 at hs
    have a := out_begW gd h1 hm ui ul
    have b := out_begW gd h1 hm ui (Nat.le_succ_of_le ul)
    have c := out_begN' gd h1 hm ui
    rcases (by omega : d = 1 ∨ d = 2 ∨ d = 3) with rfl | rfl | rfl
    · replace hs : ss = tW t N 1 ∨ ss = tW t N 2 ∨ ss = tab (mds t) N := by simpa using hs
      rcases hs with rfl | rfl | rfl
      · exact ⟨⟨_, rfl⟩, a⟩
      · exact ⟨⟨_, rfl⟩, b⟩
      · exact ⟨⟨_, rfl⟩, c⟩
    · replace hs : ss = tW t N 2 ∨ ss = tW t N 3 ∨ ss = tab (mds t) N := by simpa using hs
      rcases hs with rfl | rfl | rfl
      · exact ⟨⟨_, rfl⟩, a⟩
      · exact ⟨⟨_, rfl⟩, b⟩
      · exact ⟨⟨_, rfl⟩, c⟩
    · replace hs : ss = tW t N 3 ∨ ss = tW t N 4 ∨ ss = tab (mds t) N := by simpa using hs
      rcases hs with rfl | rfl | rfl
      · exact ⟨⟨_, rfl⟩, a⟩
      · exact ⟨⟨_, rfl⟩, b⟩
      · exact ⟨⟨_, rfl⟩, c⟩
  obtain ⟨env', lp, x8, rfl⟩ := forL_map (g := gtName 8) (f := lwBg (mir (n + 120))) stD (some3 (tt5 t N) d)
    (fun i env => ∃ x8, env = [some (.d S0), some (dkO dk'), some (.d (.int code)), some (.d (encTn t)), some (.d (encTn t)), some (.d (.int cnt)), some (.d (tbsD (tt5 t N))), some (.d (.int (d : Nat))), x8, some (tbsO kept), some (.d (.int (mo : Nat))), some (.d (.int (k : Nat))), some (.d (encT u)), some (.d (encT (outT t mo u))), none])
    (fun i ss env hs ⟨x8, e⟩ => by
      subst e
      obtain ⟨⟨j, rfl⟩, bg⟩ := begs ss (List.mem_of_getElem? hs)
      obtain ⟨so, sl⟩ := tab_okS gd j mo
      have bo := lawBegins_ok (n + 120) ((tab (mds t) j).getD mo .op) (outT t mo u) (by omega) so bg
      have tm : gIx (stD (tab (mds t) j)) (.int (mo : Nat)) = some (encS ((tab (mds t) j).getD mo .op)) := by
        have ml := tab_at gd hm (n := j)
        have := at_stumps (ss := tab (mds t) j) (m := (mo : Int)) (by omega) (by omega)
        rw [Int.toNat_natCast] at this
        exact this
      refine ⟨_, rfl, [some (.d S0), some (dkO dk'), some (.d (.int code)), some (.d (encTn t)), some (.d (encTn t)), some (.d (.int cnt)), some (.d (tbsD (tt5 t N))), some (.d (.int (d : Nat))), some (.d (stD (tab (mds t) j))), some (tbsO kept), some (.d (.int (mo : Nat))), some (.d (.int (k : Nat))), some (.d (encT u)), some (.d (encT (outT t mo u))), none], .inl ?_, _, rfl⟩
      show lwBg (mir (n + 120)) [some (.d S0), some (dkO dk'), some (.d (.int code)), some (.d (encTn t)), some (.d (encTn t)), some (.d (.int cnt)), some (.d (tbsD (tt5 t N))), some (.d (.int (d : Nat))), some (.d (stD (tab (mds t) j))), some (tbsO kept), some (.d (.int (mo : Nat))), some (.d (.int (k : Nat))), some (.d (encT u)), some (.d (encT (outT t mo u))), none] = _
      generalize ((d : Nat) : Int) = r
      generalize tbsD (tt5 t N) = TO
      generalize tbsO kept = KO
      generalize some (dkO dk') = a1
      generalize encT u = U
      generalize encT (outT t mo u) = O at bo
      generalize encS ((tab (mds t) j).getD mo .op) = ES at tm bo
      generalize stD (tab (mds t) j) = SJ at tm
      generalize encTn t = TN
      simp [bo, tm]) [some (.d S0), some (dkO dk'), some (.d (.int code)), some (.d (encTn t)), some (.d (encTn t)), some (.d (.int cnt)), some (.d (tbsD (tt5 t N))), some (.d (.int (d : Nat))), none, some (tbsO kept), some (.d (.int (mo : Nat))), some (.d (.int (k : Nat))), some (.d (encT u)), some (.d (encT (outT t mo u))), none] ⟨_, rfl⟩
  refine (sThaw_nx (i := 6) (o := tbsO (tt5 t N)) (env' := [some (.d S0), some (dkO dk'), some (.d (.int code)), some (.d (encTn t)), some (.d (encTn t)), some (.d (.int cnt)), some (.d (tbsD (tt5 t N))), some (.d (.int (d : Nat))), x8, some (tbsO kept), some (.d (.int (mo : Nat))), some (.d (.int (k : Nat))), some (.d (encT u)), some (.d (encT (outT t mo u))), none]) rfl ?_
    (okThaw_of (okF_cons okK (okF_cons (okC (clean_dk _)) (okF_cons okK (okF_cons okK (okF_cons okK (okF_cons okK (okF_cons okI (okF_cons okK (okF_cons okD (okF_cons (okC (clean_tbs _)) (okF_cons okK (okF_cons okK (okF_cons okK (okF_cons okK (okF_cons okN okF_nil)))))))))))))))) (by show 6 < 15; decide)).trans rfl
  show (sFor _ _ _) [some (.d S0), some (dkO dk'), some (.d (.int code)), some (.d (encTn t)), some (.d (encTn t)), some (.d (.int cnt)), some (.d (viewD (tbsO (tt5 t N)))), some (.d (.int (d : Nat))), none, some (tbsO kept), some (.d (.int (mo : Nat))), some (.d (.int (k : Nat))), some (.d (encT u)), some (.d (encT (outT t mo u))), none] = _
  rw [vt, sFor_eq]
  have it : (eB (eM (eBinO gAdd (eB (eSl (eVar 6) (eB (eBin gSub (eVar 7) (eC (.int 1))) asI) (eB (eM (eBinO gAdd (eVar 7) (eC (.int 1))) viewD) asI)) shD) (eB (eSl (eVar 6) (eB (eC (.int 4)) asI) oNone) shD)) viewD) itD) [some (.d S0), some (dkO dk'), some (.d (.int code)), some (.d (encTn t)), some (.d (encTn t)), some (.d (.int cnt)), some (.d (tbsD (tt5 t N))), some (.d (.int (d : Nat))), none, some (tbsO kept), some (.d (.int (mo : Nat))), some (.d (.int (k : Nat))), some (.d (encT u)), some (.d (encT (outT t mo u))), none] = .ok ((some3 (tt5 t N) d).map stD) := by
    have s1 : gSl (tbsD (tt5 t N)) (some ((d : Int) - 1)) (some ((d : Int) + 1)) = some (.l (((((tt5 t N).take (d + 1)).drop (d - 1)).map stD).map Ow.d)) := by
      unfold tbsD tt5
      rcases (by omega : d = 1 ∨ d = 2 ∨ d = 3) with rfl | rfl | rfl <;> rfl
    have s2 : gSl (tbsD (tt5 t N)) (some 4) none = some (.l ((((tt5 t N).drop 4).map stD).map Ow.d)) := by
      unfold tbsD tt5
      rfl
    have sh1 := shD_l ((((tt5 t N).take (d + 1)).drop (d - 1)).map stD)
    have sh2 := shD_l (((tt5 t N).drop 4).map stD)
    have ad := add_ls stD (((tt5 t N).take (d + 1)).drop (d - 1)) ((tt5 t N).drop 4) (by unfold tt5; rcases (by omega : d = 1 ∨ d = 2 ∨ d = 3) with rfl | rfl | rfl <;> simp)
    have vw := vw_ls ((some3 (tt5 t N) d).map stD)
    change gAdd _ _ = some (.l (((some3 (tt5 t N) d).map stD).map Ow.d)) at ad
    have id : itD (.list ((some3 (tt5 t N) d).map stD)) = .ok ((some3 (tt5 t N) d).map stD) := rfl
    generalize ((d : Nat) : Int) = r at s1
    generalize ((some3 (tt5 t N) d).map stD).map Ow.d = R3 at ad vw
    generalize ((((tt5 t N).take (d + 1)).drop (d - 1)).map stD).map Ow.d = R1 at s1 sh1
    generalize (((tt5 t N).drop 4).map stD).map Ow.d = R2 at s2 sh2
    generalize PyData.list ((((tt5 t N).take (d + 1)).drop (d - 1)).map stD) = L1 at sh1 ad
    generalize PyData.list (((tt5 t N).drop 4).map stD) = L2 at sh2 ad
    generalize PyData.list ((some3 (tt5 t N) d).map stD) = L3 at vw id
    generalize tbsD (tt5 t N) = TO at s1 s2
    generalize tbsO kept = KO
    generalize some (dkO dk') = a1
    generalize encT u = U
    generalize encT (outT t mo u) = O
    generalize encTn t = TN
    simp [s1, s2, sh1, sh2, ad, vw, id]
  rw [it, R.st_ok]
  exact lp
end
/-- the loop that spoils the tables -/
theorem spoil (f : Ev → SR) (hf : f = (sSeq (sRevS 8) (sApp 8 (eM (eTup (aCons (eC (.str "open")) aNil)) Ow.d)))) : ∀ (tt : List (List Stp)) (x0 x1 x2 x3 x4 x5 x6 x7 x9 x10 x11 x12 x13 x14 x8 : Option Ow), (∀ ss ∈ tt, ss.length ≤ 1000) → ∃ y8, forO 8 f (tt.map stO) [x0, x1, x2, x3, x4, x5, x6, x7, x8, x9, x10, x11, x12, x13, x14] = .nx [x0, x1, x2, x3, x4, x5, x6, x7, y8, x9, x10, x11, x12, x13, x14]
  | [], x0, x1, x2, x3, x4, x5, x6, x7, x9, x10, x11, x12, x13, x14, x8, _ => ⟨x8, rfl⟩
  | ss :: tt, x0, x1, x2, x3, x4, x5, x6, x7, x9, x10, x11, x12, x13, x14, x8, hl => by
    have so : stO ss = .l ((ss.map encS).map Ow.d) := by unfold stO; rw [List.map_map]; rfl
    have e1 : f [x0, x1, x2, x3, x4, x5, x6, x7, some (stO ss), x9, x10, x11, x12, x13, x14] = .nx [x0, x1, x2, x3, x4, x5, x6, x7, some (.l ((ss.map encS).reverse.map Ow.d ++ [.d (.tuple [.str "open"])])), x9, x10, x11, x12, x13, x14] := by
      rw [hf]
      have hn : (ss.map encS).length < 16777216 := by rw [List.length_map]; have := hl ss List.mem_cons_self; omega
      refine seq_nx (env1 := [x0, x1, x2, x3, x4, x5, x6, x7, some (.l ((ss.map encS).reverse.map Ow.d)), x9, x10, x11, x12, x13, x14]) (by rw [so]; exact sRevS_of rfl) ?_
      have hn : ((ss.map encS).reverse.map Ow.d).length < sizeLine := by rw [List.length_map, List.length_reverse, sizeLine_eq]; exact hn
      generalize (ss.map encS).reverse.map Ow.d = OS at hn ⊢
      rw [sApp_eq, ownL_8]
      simp [hn, sizeLine_eq]
      first | done | (rw [sizeLine_eq] at hn; omega)
    obtain ⟨y8, e2⟩ := spoil f hf tt x0 x1 x2 x3 x4 x5 x6 x7 x9 x10 x11 x12 x13 x14 (some (.l ((ss.map encS).reverse.map Ow.d ++ [.d (.tuple [.str "open"])]))) (fun s hs => hl s (List.mem_cons_of_mem _ hs))
    refine ⟨y8, ?_⟩
    rw [List.map_cons, forO, if_pos (by show 8 < 15; decide)]
    show (match f [x0, x1, x2, x3, x4, x5, x6, x7, some (stO ss), x9, x10, x11, x12, x13, x14] with
    | .nx e => forO 8 f (tt.map stO) e
    | .ct e => forO 8 f (tt.map stO) e
    | .bk e => .nx e
    | .rt r e => .rt r e
    | .ex c e => .ex c e
    | .no => .no) = _
    rw [e1]
    exact e2
end
end G
set_option Elab.async false
set_option linter.all false
set_option maxRecDepth 100000
set_option maxHeartbeats 4000000
namespace G
open PySem PySem.Spec L2 Mir
noncomputable section
abbrev Env33 (S0 : PyData) (dk : List Int) (code : Int) (TN : PyData) (cnt : Int) (TO : Ow) (x7 x8 : Option Ow) (KO : Ow) (x10 x11 x12 x13 : Option Ow) : Ev := [some (.d S0), some (dkO dk), some (.d (.int code)), some (.d TN), some (.d TN), some (.d (.int cnt)), some TO, x7, x8, some KO, x10, x11, x12, x13, none]
theorem law_true (L : Nat) (hL : 121 ≤ L) (ns : List Int) (h : ns.length ≤ 63) : mir L 30 [.list (ns.map PyData.int)] = .ok (.d (.bool true)) := by
  obtain ⟨n, rfl⟩ : ∃ n, L = n + 121 := ⟨L - 121, by omega⟩
  obtain ⟨dk0, nu⟩ := numbers (n + 119) ns h
  have D := draws (n + 119)
  obtain ⟨code, dk1, c0, c1, e1⟩ := D dk0 (10 ^ 6) (by decide)
  have c1 : code < 1000000 := by omega
  have p6 : gPow (.int 10) (.int 6) = some (.int (10 ^ 6)) := gPow10 6 (by decide)
  obtain ⟨w, kn, dk3, hw, hkn, e3⟩ := wood_ok (n + 118) code c0 c1 dk1
  obtain ⟨t, dk4, tw, tm, e4⟩ := turning_ok (n + 89) code c0 c1 w kn hw dk3
  have e4 : mir (n + 120) 19 (dkD dk3 :: [.int code, encWd w]) = tells (encTn t) dk4 := e4
  have gd : TnGd t := tm.gd (kn := kn) (by rw [tw]; exact hw) hkn
  have ok := gd.ok
  obtain ⟨N, hN, h1, h2⟩ := gd.stop
  have cp := copy_ok (n + 119) t ok
  have cm := commonsO_ok gd (by omega) h1 h2 (n + 87)
  have cm : mir (n + 120) 8 [encTn t] = .ok (stO (tab (mds t) N)) := cm
  have wi : ∀ d : Nat, 1 ≤ d → mir (n + 120) 7 [encTn t, .int (d : Nat)] = .ok (stO (tW t N d)) := fun d hd => within_ok ok (by omega) h1 h2 (n + 86) (d : Nat) (by omega)
  obtain ⟨S0, hS0⟩ : ∃ S, S = PyData.list (ns.map PyData.int) := ⟨_, rfl⟩
  rw [mir_law, run_law]
  rw [← hS0] at nu ⊢
  rw [show envOf 14 [S0] = [some (.d S0), none, none, none, none, none, none, none, none, none, none, none, none, none, none] from rfl]
  refine fin_step (env1 := [some (.d S0), some (dkO dk0), none, none, none, none, none, none, none, none, none, none, none, none, none]) (by simp [nu]) ?_
  have z2 := xCallK_dk (m := mir (n + 120) 10) (i := 1) (fa := (xCons (xP (eBin gPow (eC (.int 10)) (eC (.int 6)))) xNil)) (env := [some (.d S0), some (dkO dk0), none, none, none, none, none, none, none, none, none, none, none, none, none]) (env1 := [some (.d S0), some (dkO dk0), none, none, none, none, none, none, none, none, none, none, none, none, none]) (ds := [.int (10 ^ 6)]) (dk0 := dk0) (dk := dk0) rfl (by simp [p6]) rfl e1
  refine fin_step (env1 := [some (.d S0), some (dkO dk1), some (.d (.int code)), none, none, none, none, none, none, none, none, none, none, none, none]) (sXSet_of z2 (by show 2 < 15; decide)) ?_
  have y3 := xCallK_dk (m := mir (n + 120) 13) (i := 1) (fa := (xCons (xP (eVar 2)) xNil)) (env := [some (.d S0), some (dkO dk1), some (.d (.int code)), none, none, none, none, none, none, none, none, none, none, none, none]) (env1 := [some (.d S0), some (dkO dk1), some (.d (.int code)), none, none, none, none, none, none, none, none, none, none, none, none]) (ds := [.int code]) (dk0 := dk1) (dk := dk1) rfl rfl rfl e3
  have z3 := xCallK_dk (m := mir (n + 120) 19) (i := 1) (fa := (xCons (xP (eVar 2)) (xCons (xCallK (mir (n + 120) 13) 1 (xCons (xP (eVar 2)) xNil)) xNil))) (env := [some (.d S0), some (dkO dk1), some (.d (.int code)), none, none, none, none, none, none, none, none, none, none, none, none]) (env1 := [some (.d S0), some (dkO dk3), some (.d (.int code)), none, none, none, none, none, none, none, none, none, none, none, none]) (ds := [.int code, encWd w]) (dk0 := dk1) (dk := dk3) rfl (by
    rw [xCons_eq, xP_eq]
    simp only [eVar_2, R.bind_ok, xCons_eq, y3, xNil_eq]
    rfl) rfl e4
  refine fin_step (env1 := [some (.d S0), some (dkO dk4), some (.d (.int code)), some (.d (encTn t)), none, none, none, none, none, none, none, none, none, none, none]) (sXSet_of z3 (by show 3 < 15; decide)) ?_
  refine fin_step (env1 := [some (.d S0), some (dkO dk4), some (.d (.int code)), some (.d (encTn t)), some (.d (encTn t)), none, none, none, none, none, none, none, none, none, none]) (by
    generalize encTn t = TN at cp ⊢
    generalize some (dkO dk4) = a1
    simp [cp]) ?_
  have i2 : gIx (encTn t) (.int 2) = some (moD t.modes) := w_ix2 t
  have ml := mo_len t.modes
  refine fin_step (env1 := [some (.d S0), some (dkO dk4), some (.d (.int code)), some (.d (encTn t)), some (.d (encTn t)), some (.d (.int (t.modes.length : Nat))), none, none, none, none, none, none, none, none, none]) (by
    generalize moD t.modes = M at i2 ml
    generalize encTn t = TN at i2
    generalize some (dkO dk4) = a1
    generalize ((t.modes.length : Nat) : Int) = z at ml
    simp [i2, ml]) ?_
  refine fin_step (env1 := [some (.d S0), some (dkO dk4), some (.d (.int code)), some (.d (encTn t)), some (.d (encTn t)), some (.d (.int (t.modes.length : Nat))), some (tbsO (tt5 t N)), none, none, none, none, none, none, none, none]) (by
    have lc : (eLc (eB (eM (eLst (aCons (eC (.int 1)) (aCons (eC (.int 2)) (aCons (eC (.int 3)) (aCons (eC (.int 4)) aNil))))) viewD) itD) (gtName 7) cYes (eB (aCons (eVar 4) (aCons (eVar 7) aNil)) (mir (n + 120) 7)) (List.map (·.2) ([("_law_deep", 7)] : List (Str × Nat)))) [some (.d S0), some (dkO dk4), some (.d (.int code)), some (.d (encTn t)), some (.d (encTn t)), some (.d (.int (t.modes.length : Nat))), none, none, none, none, none, none, none, none, none] = .ok (.l ([1, 2, 3, 4].map fun d : Nat => stO (tW t N d))) := by
      refine eLc_of (ds := [1, 2, 3, 4].map fun d : Nat => PyData.int (d : Nat)) ?_ (by decide) (lcR_map (fun d : Nat => PyData.int (d : Nat)) _ [1, 2, 3, 4] fun d hd => ⟨[some (.d S0), some (dkO dk4), some (.d (.int code)), some (.d (encTn t)), some (.d (encTn t)), some (.d (.int (t.modes.length : Nat))), none, some (.d (.int (d : Nat))), none, none, none, none, none, none, none], rfl, rfl, ?_⟩)
      · generalize encTn t = TN
        generalize some (dkO dk4) = a1
        simp [sizeLine_eq]
      · have := wi d (by simp at hd; omega)
        generalize encTn t = TN at this
        generalize some (dkO dk4) = a1
        generalize stO (tW t N d) = SO at this
        generalize ((d : Nat) : Int) = z at this
        simp [this]
    have ls : (eLstO (oCons (eB (aCons (eVar 4) aNil) (mir (n + 120) 8)) oNil)) [some (.d S0), some (dkO dk4), some (.d (.int code)), some (.d (encTn t)), some (.d (encTn t)), some (.d (.int (t.modes.length : Nat))), none, none, none, none, none, none, none, none, none] = .ok (.l [stO (tab (mds t) N)]) := by
      generalize encTn t = TN at cm
      generalize some (dkO dk4) = a1
      generalize stO (tab (mds t) N) = SO at cm
      simp [cm, sizeLine_eq]
    rw [sSet_eq, eAddO_eq, lc, R.bind_ok, ls, R.bind_ok]
    simp only
    rw [guard_ok (by rw [sizeLine_eq]; simp), R.st_ok]
    rfl) ?_
  have vt := view_tbs (tt5 t N)
  have tl : ∀ ss ∈ tt5 t N, ss.length ≤ 1000 := fun ss hs => by
    obtain ⟨k, rfl⟩ := tt5_tab gd ss hs
    rw [tab_len]
    unfold mds
    rw [List.length_map]
    have := ok.few
    omega
  -- each is a list of stumps
  have t1 : sThaw 6 [8] [0, 1, 2, 3, 4, 5, 7, 9, 10, 11, 12, 13, 14] (sFor (eB (eVar 6) itD) (gtName 8) (lwSt (mir (n + 120)))) [some (.d S0), some (dkO dk4), some (.d (.int code)), some (.d (encTn t)), some (.d (encTn t)), some (.d (.int (t.modes.length : Nat))), some (tbsO (tt5 t N)), none, none, none, none, none, none, none, none] = .nx [some (.d S0), some (dkO dk4), some (.d (.int code)), some (.d (encTn t)), some (.d (encTn t)), some (.d (.int (t.modes.length : Nat))), some (tbsO (tt5 t N)), none, none, none, none, none, none, none, none] := by
    obtain ⟨env', lp, x8, rfl⟩ := forL_map (g := gtName 8) (f := lwSt (mir (n + 120))) stD (tt5 t N)
      (fun i env => ∃ x8, env = [some (.d S0), some (dkO dk4), some (.d (.int code)), some (.d (encTn t)), some (.d (encTn t)), some (.d (.int (t.modes.length : Nat))), some (.d (tbsD (tt5 t N))), none, x8, none, none, none, none, none, none])
      (fun i ss env hs ⟨x8, e⟩ => by
        subst e
        obtain ⟨k, rfl⟩ := tt5_tab gd ss (List.mem_of_getElem? hs)
        have st := stumps_ok gd (n + 119) (by omega) k
        refine ⟨_, rfl, [some (.d S0), some (dkO dk4), some (.d (.int code)), some (.d (encTn t)), some (.d (encTn t)), some (.d (.int (t.modes.length : Nat))), some (.d (tbsD (tt5 t N))), none, some (.d (stD (tab (mds t) k))), none, none, none, none, none, none], .inl ?_, _, rfl⟩
        show lwSt _ [some (.d S0), some (dkO dk4), some (.d (.int code)), some (.d (encTn t)), some (.d (encTn t)), some (.d (.int (t.modes.length : Nat))), some (.d (tbsD (tt5 t N))), none, some (.d (stD (tab (mds t) k))), none, none, none, none, none, none] = _
        change mir (n + 120) 29 _ = _ at st
        generalize stD (tab (mds t) k) = S at st
        generalize ((t.modes.length : Nat) : Int) = z at st
        generalize tbsD (tt5 t N) = TO
        generalize some (dkO dk4) = a1
        generalize encTn t = TN
        simp [st]) [some (.d S0), some (dkO dk4), some (.d (.int code)), some (.d (encTn t)), some (.d (encTn t)), some (.d (.int (t.modes.length : Nat))), some (.d (tbsD (tt5 t N))), none, none, none, none, none, none, none, none] ⟨_, rfl⟩
    refine (sThaw_nx (i := 6) (o := tbsO (tt5 t N)) (env' := [some (.d S0), some (dkO dk4), some (.d (.int code)), some (.d (encTn t)), some (.d (encTn t)), some (.d (.int (t.modes.length : Nat))), some (.d (tbsD (tt5 t N))), none, x8, none, none, none, none, none, none]) rfl ?_
      (okThaw_of (okF_cons okK (okF_cons (okC (clean_dk _)) (okF_cons okK (okF_cons okK (okF_cons okK (okF_cons okK (okF_cons okI (okF_cons okN (okF_cons okD (okF_cons okN (okF_cons okN (okF_cons okN (okF_cons okN (okF_cons okN (okF_cons okN okF_nil)))))))))))))))) (by show 6 < 15; decide)).trans rfl
    show (sFor _ _ _) [some (.d S0), some (dkO dk4), some (.d (.int code)), some (.d (encTn t)), some (.d (encTn t)), some (.d (.int (t.modes.length : Nat))), some (.d (viewD (tbsO (tt5 t N)))), none, none, none, none, none, none, none, none] = _
    rw [vt, sFor_eq]
    exact (congrArg (fun r => R.st _ r _) (show (eB (eVar 6) itD) _ = .ok ((tt5 t N).map stD) from rfl)).trans lp
  refine fin_step t1 ?_
  -- kept
  have t2 : sThaw 6 [] [0, 1, 2, 3, 4, 5, 7, 10, 11, 12, 13, 14] (sSet 9 (eLc (eB (eVar 6) itD) (gtName 8) cYes (eCa gList (aCons (eB (eVarO 8) shD) aNil)) (List.map (·.2) ([("_law_table", 8)] : List (Str × Nat))))) [some (.d S0), some (dkO dk4), some (.d (.int code)), some (.d (encTn t)), some (.d (encTn t)), some (.d (.int (t.modes.length : Nat))), some (tbsO (tt5 t N)), none, none, none, none, none, none, none, none] = .nx [some (.d S0), some (dkO dk4), some (.d (.int code)), some (.d (encTn t)), some (.d (encTn t)), some (.d (.int (t.modes.length : Nat))), some (tbsO (tt5 t N)), none, none, some (tbsO (tt5 t N)), none, none, none, none, none] := by
    refine (sThaw_nx (i := 6) (o := tbsO (tt5 t N)) (env' := [some (.d S0), some (dkO dk4), some (.d (.int code)), some (.d (encTn t)), some (.d (encTn t)), some (.d (.int (t.modes.length : Nat))), some (.d (tbsD (tt5 t N))), none, none, some (tbsO (tt5 t N)), none, none, none, none, none]) rfl ?_
      (okThaw_of (okF_cons okK (okF_cons (okC (clean_dk _)) (okF_cons okK (okF_cons okK (okF_cons okK (okF_cons okK (okF_cons okI (okF_cons okN (okF_cons okN (okF_cons (okC (clean_tbs _)) (okF_cons okN (okF_cons okN (okF_cons okN (okF_cons okN (okF_cons okN okF_nil)))))))))))))))) (by show 6 < 15; decide)).trans rfl
    show (sSet 9 _) [some (.d S0), some (dkO dk4), some (.d (.int code)), some (.d (encTn t)), some (.d (encTn t)), some (.d (.int (t.modes.length : Nat))), some (.d (viewD (tbsO (tt5 t N)))), none, none, none, none, none, none, none, none] = _
    rw [vt, sSet_eq]
    have lc : (eLc (eB (eVar 6) itD) (gtName 8) cYes (eCa gList (aCons (eB (eVarO 8) shD) aNil)) (List.map (·.2) ([("_law_table", 8)] : List (Str × Nat)))) [some (.d S0), some (dkO dk4), some (.d (.int code)), some (.d (encTn t)), some (.d (encTn t)), some (.d (.int (t.modes.length : Nat))), some (.d (tbsD (tt5 t N))), none, none, none, none, none, none, none, none] = .ok (.l ((tt5 t N).map stO)) := by
      refine eLc_of (ds := (tt5 t N).map stD) rfl (by unfold tt5; simp [sizeLine_eq]) (lcR_map stD stO (tt5 t N) fun ss _ => ⟨[some (.d S0), some (dkO dk4), some (.d (.int code)), some (.d (encTn t)), some (.d (encTn t)), some (.d (.int (t.modes.length : Nat))), some (.d (tbsD (tt5 t N))), none, some (.d (stD ss)), none, none, none, none, none, none], rfl, rfl, ?_⟩)
      have gl : gList [stD ss] = some (stO ss) := by
        unfold stD stO
        rw [gList_ls, List.map_map]
        rfl
      generalize stD ss = S at gl
      generalize stO ss = SO at gl
      generalize tbsD (tt5 t N) = TO
      generalize some (dkO dk4) = a1
      generalize encTn t = TN
      simp [gl]
    rw [lc, R.st_ok]
    rfl
  refine fin_step t2 ?_
  -- the modes
  obtain ⟨env', lp, dk5, x7, x10, x11, x12, x13, q7, q12, q13, rfl⟩ := forL_map (g := gtName 10) (f := (sFor (eB (aCons (eC (.int 8)) aNil) rg1) (gtName 11) (lwIn (mir (n + 120))))) (fun k : Nat => PyData.int (k : Nat)) (List.range t.modes.length)
    (fun i env => ∃ dk x7 x10 x11 x12 x13, (∀ x, x7 = some x → cleanO x = true) ∧ (∀ x, x12 = some x → cleanO x = true) ∧ (∀ x, x13 = some x → cleanO x = true) ∧ env = Env33 S0 dk code (encTn t) (t.modes.length : Nat) (tbsO (tt5 t N)) x7 none (tbsO (tt5 t N)) x10 x11 x12 x13)
    (fun i mo env hmo ⟨dk, x7, x10, x11, x12, x13, q7, q12, q13, e⟩ => by
      subst e
      have mol := List.mem_range.mp (List.mem_of_getElem? hmo)
      have hm := List.getElem?_eq_getElem mol
      obtain ⟨env', lp, dk5, y7, y11, y12, y13, r7, r12, r13, rfl⟩ := forL_map (g := gtName 11) (f := lwIn (mir (n + 120))) (fun k : Nat => PyData.int (k : Nat)) (List.range 8)
        (fun i env => ∃ dk x7 x11 x12 x13, (∀ x, x7 = some x → cleanO x = true) ∧ (∀ x, x12 = some x → cleanO x = true) ∧ (∀ x, x13 = some x → cleanO x = true) ∧ env = Env33 S0 dk code (encTn t) (t.modes.length : Nat) (tbsO (tt5 t N)) x7 none (tbsO (tt5 t N)) (some (.d (.int (mo : Nat)))) x11 x12 x13)
        (fun i k env hk ⟨dk, x7, x11, x12, x13, q7, q12, q13, e⟩ => by
          subst e
          obtain ⟨dk', y7, y12, y13, r7, r12, r13, e⟩ := lwIn_ok gd h1 n hm k S0 code (t.modes.length : Nat) (tt5 t N) x7 x12 x13 q7 q12 q13 dk
          exact ⟨_, rfl, _, .inl e, dk', y7, _, y12, y13, r7, r12, r13, rfl⟩) (Env33 S0 dk code (encTn t) (t.modes.length : Nat) (tbsO (tt5 t N)) x7 none (tbsO (tt5 t N)) (some (.d (.int (mo : Nat)))) x11 x12 x13) ⟨dk, x7, x11, x12, x13, q7, q12, q13, rfl⟩
      refine ⟨_, rfl, _, .inl ?_, dk5, y7, some (.d (.int (mo : Nat))), y11, y12, y13, r7, r12, r13, rfl⟩
      rw [sFor_eq]
      have it : (eB (aCons (eC (.int 8)) aNil) rg1) (Env33 S0 dk code (encTn t) (t.modes.length : Nat) (tbsO (tt5 t N)) x7 none (tbsO (tt5 t N)) (some (.d (.int (mo : Nat)))) x11 x12 x13) = .ok ((List.range 8).map fun k : Nat => PyData.int (k : Nat)) := by
        rw [← rangeD_map]
        exact rg1_nat 8 (by decide)
      exact (congrArg (fun r => R.st _ r _) it).trans lp) (Env33 S0 dk4 code (encTn t) (t.modes.length : Nat) (tbsO (tt5 t N)) none none (tbsO (tt5 t N)) none none none none) ⟨dk4, none, none, none, none, none, (fun x hx => by cases hx), (fun x hx => by cases hx), (fun x hx => by cases hx), rfl⟩
  refine fin_step (env1 := _) (by
    rw [sFor_eq]
    have it : (eB (aCons (eVar 5) aNil) rg1) (Env33 S0 dk4 code (encTn t) (t.modes.length : Nat) (tbsO (tt5 t N)) none none (tbsO (tt5 t N)) none none none none) = .ok ((List.range t.modes.length).map fun k : Nat => PyData.int (k : Nat)) := by
      rw [← rangeD_map]
      have rg := rg1_nat t.modes.length (by have := ok.few; omega)
      generalize rangeD 0 t.modes.length = RG at rg ⊢
      generalize ((t.modes.length : Nat) : Int) = z at rg
      generalize tbsO (tt5 t N) = TO
      generalize encTn t = TN
      unfold Env33
      generalize some (dkO dk4) = a1
      simp [rg]
    exact (congrArg (fun r => R.st _ r _) it).trans lp) ?_
  -- the tables spoilt
  obtain ⟨y8, sp⟩ := spoil _ rfl (tt5 t N) (some (.d S0)) (some (dkO dk5)) (some (.d (.int code))) (some (.d (encTn t))) (some (.d (encTn t))) (some (.d (.int (t.modes.length : Nat)))) none x7 (some (tbsO (tt5 t N))) x10 x11 x12 x13 none none tl
  refine fin_step (env1 := _) ((sForOwn_of (os := (tt5 t N).map stO) rfl).trans sp) ?_
  have vw1 : viewD (stO (tab (mds t) N)) = stD (tab (mds t) N) := viewD_stO _
  have lc : (eLc (eB (aCons (eC (.int 4)) aNil) rg1) (gtName 11) cYes (eB (aCons (eVar 4) (aCons (eBin gSub (eC (.int 4)) (eVar 11)) aNil)) (mir (n + 120) 7)) (List.map (·.2) ([("_law_k", 11)] : List (Str × Nat)))) [some (.d S0), some (dkO dk5), some (.d (.int code)), some (.d (encTn t)), some (.d (encTn t)), some (.d (.int (t.modes.length : Nat))), none, x7, y8, some (tbsO (tt5 t N)), x10, x11, x12, x13, none] = .ok (.l ((List.range 4).map fun k : Nat => stO (tW t N (4 - k)))) := by
    refine eLc_of (ds := (List.range 4).map fun d : Nat => PyData.int (d : Nat)) ?_ (by decide) (lcR_map (fun d : Nat => PyData.int (d : Nat)) _ (List.range 4) fun d hd => ⟨[some (.d S0), some (dkO dk5), some (.d (.int code)), some (.d (encTn t)), some (.d (encTn t)), some (.d (.int (t.modes.length : Nat))), none, x7, y8, some (tbsO (tt5 t N)), x10, some (.d (.int (d : Nat))), x12, x13, none], rfl, rfl, ?_⟩)
    · rw [← rangeD_map]
      exact rg1_nat 4 (by decide)
    · have hd := List.mem_range.mp hd
      have := wi (4 - d) (by omega)
      rw [show ((4 - d : Nat) : Int) = 4 - (d : Int) by omega] at this
      generalize encTn t = TN at this
      generalize some (dkO dk5) = a1
      generalize stO (tW t N (4 - d)) = SO at this
      generalize tbsO (tt5 t N) = TO
      generalize ((d : Nat) : Int) = z at this ⊢
      generalize ((t.modes.length : Nat) : Int) = z2
      simp [this]
  have vl : viewD (.l ((List.range 4).map fun k : Nat => stO (tW t N (4 - k)))) = .list ([tW t N 4, tW t N 3, tW t N 2, tW t N 1].map stD) := by
    have : ((List.range 4).map fun k : Nat => stO (tW t N (4 - k))) = [tW t N 4, tW t N 3, tW t N 2, tW t N 1].map stO := rfl
    rw [this]
    exact view_tbs _
  have ad := add_ls stD [tab (mds t) N] [tW t N 4, tW t N 3, tW t N 2, tW t N 1] (by simp)
  have va := vw_ls (([tab (mds t) N] ++ [tW t N 4, tW t N 3, tW t N 2, tW t N 1]).map stD)
  have sh := shD_l ([tab (mds t) N].map stD)
  refine fin_step (env1 := [some (.d S0), some (dkO dk5), some (.d (.int code)), some (.d (encTn t)), some (.d (encTn t)), some (.d (.int (t.modes.length : Nat))), none, x7, y8, some (tbsO (tt5 t N)), x10, x11, x12, x13, some (.d (.list (([tab (mds t) N] ++ [tW t N 4, tW t N 3, tW t N 2, tW t N 1]).map stD)))]) (by
    rw [sSet_eq, eM_eq, eM_eq, eBinO_eq]
    have a1 : (eB (eLst (aCons (eM (eB (aCons (eVar 4) aNil) (mir (n + 120) 8)) viewD) aNil)) shD) [some (.d S0), some (dkO dk5), some (.d (.int code)), some (.d (encTn t)), some (.d (encTn t)), some (.d (.int (t.modes.length : Nat))), none, x7, y8, some (tbsO (tt5 t N)), x10, x11, x12, x13, none] = .ok (.list ([tab (mds t) N].map stD)) := by
      generalize encTn t = TN at cm
      generalize some (dkO dk5) = a1
      generalize tbsO (tt5 t N) = TO
      simp only [List.map_cons, List.map_nil] at sh ⊢
      generalize stO (tab (mds t) N) = SO at cm vw1
      generalize stD (tab (mds t) N) = SD at vw1 sh
      simp [cm, vw1, sizeLine_eq, sh]
    rw [a1, R.bind_ok, eM_eq, lc, R.map_ok, vl, R.bind_ok, ad, R.of_some, R.map_ok, va, R.map_ok, R.st_ok]
    rfl) ?_
  have eq := gEq_self (nice_encTn ok)
  have rv : gListRev (.list (([tab (mds t) N] ++ [tW t N 4, tW t N 3, tW t N 2, tW t N 1]).map stD)) = some (.l (((tt5 t N).map stD).map Ow.d)) := rfl
  have vr := vw_ls ((tt5 t N).map stD)
  have nt : Nice (tbsD (tt5 t N)) := nice_list (n := 125) (fun d hd => by
    obtain ⟨ss, hs, rfl⟩ := List.mem_map.mp hd
    obtain ⟨k, rfl⟩ := tt5_tab gd ss hs
    refine ⟨(nice_stD (tab_good60 ok k)).1, ?_⟩
    unfold stD
    rw [PyData.depth]
    have := depthAll_of (n := 120) ((tab (mds t) k).map encS) fun d hd => by
      obtain ⟨s, hs, rfl⟩ := List.mem_map.mp hd
      have := depth_encS s
      have := (tab_good60 ok k s hs).2
      omega
    omega) (by decide)
  have eq2 := gEq_self nt
  change viewD _ = tbsD (tt5 t N) at vr
  generalize (.l (((tt5 t N).map stD).map Ow.d) : Ow) = RO at rv vr
  generalize PyData.list (([tab (mds t) N] ++ [tW t N 4, tW t N 3, tW t N 2, tW t N 1]).map stD) = AG at rv
  generalize tbsO (tt5 t N) = TO at vt
  generalize tbsD (tt5 t N) = TD at vt vr eq2
  generalize encTn t = TN at eq
  generalize some (dkO dk5) = a1
  simp [rv, vr, vt, eq, eq2]
end
end G
open PySem PySem.W PyProof.Rows
set_option maxRecDepth 100000 in
set_option maxHeartbeats 0 in
theorem PySem.Challenge.cw_turnery_k33_outcomes_begin_so_holds : PySem.Challenge.rw_turnery_k33_outcomes_begin_so.Holds := by
  w_on; o_law; k_head; (case hw => w_witness2)
  k_fill
  refine Mir.law_end (l := PySem.Challenge.rw_turnery_k33_outcomes_begin_so) (m := G.mir 130 30) 130 "_law_script" rfl rfl ⟨rfl, by decide, by decide⟩ (fun w h Y => PySem.W.kIn_of Y) (fun ns h _ => G.law_true 130 (by decide) ns h) ?F
  case F =>
    intro w mg fa h KX Gn hmg
    refine' G.all_mk 130 KX Gn hmg ?a0 ?l0 ?c0 ?k0 ?a1 ?l1 ?c1 ?k1 ?a2 ?l2 ?c2 ?k2 ?a3 ?l3 ?c3 ?k3 ?a4 ?l4 ?c4 ?k4 ?a5 ?l5 ?c5 ?k5 ?a6 ?l6 ?c6 ?k6 ?a7 ?l7 ?c7 ?k7 ?a8 ?l8 ?c8 ?k8 ?a9 ?l9 ?c9 ?k9 ?a10 ?l10 ?c10 ?k10 ?a11 ?l11 ?c11 ?k11 ?a12 ?l12 ?c12 ?k12 ?a13 ?l13 ?c13 ?k13 ?a14 ?l14 ?c14 ?k14 ?a15 ?l15 ?c15 ?k15 ?a16 ?l16 ?c16 ?k16 ?a17 ?l17 ?c17 ?k17 ?a18 ?l18 ?c18 ?k18 ?a19 ?l19 ?c19 ?k19 ?a20 ?l20 ?c20 ?k20 ?a21 ?l21 ?c21 ?k21 ?a22 ?l22 ?c22 ?k22 ?a23 ?l23 ?c23 ?k23 ?a24 ?l24 ?c24 ?k24 ?a25 ?l25 ?c25 ?k25 ?a26 ?l26 ?c26 ?k26 ?a27 ?l27 ?c27 ?k27 ?a28 ?l28 ?c28 ?k28 ?a29 ?l29 ?c29 ?k29 ?a30 ?l30 ?c30 ?k30 ?z_bool ?z_int ?z_isinstance ?z_len ?z_list ?z_range ?z_reversed ?z_sorted ?z_str ?z_sum ?z_tuple ?z_zip
    (case a0 => k_is)
    (case l0 => k_is)
    (case c0 => k_is)
    (case k0 => k_is)
    (case a1 => k_is)
    (case l1 => k_is)
    (case c1 => k_is)
    (case k1 => k_is)
    (case a2 => k_is)
    (case l2 => k_is)
    (case c2 => k_is)
    (case k2 => k_is)
    (case a3 => k_is)
    (case l3 => k_is)
    (case c3 => k_is)
    (case k3 => k_is)
    (case a4 => k_is)
    (case l4 => k_is)
    (case c4 => k_is)
    (case k4 => k_is)
    (case a5 => k_is)
    (case l5 => k_is)
    (case c5 => k_is)
    (case k5 => k_is)
    (case a6 => k_is)
    (case l6 => k_is)
    (case c6 => k_is)
    (case k6 => k_is)
    (case a7 => k_is)
    (case l7 => k_is)
    (case c7 => k_is)
    (case k7 => k_is)
    (case a8 => k_is)
    (case l8 => k_is)
    (case c8 => k_is)
    (case k8 => k_is)
    (case a9 => k_is)
    (case l9 => k_is)
    (case c9 => k_is)
    (case k9 => k_is)
    (case a10 => k_is)
    (case l10 => k_is)
    (case c10 => k_is)
    (case k10 => k_is)
    (case a11 => k_is)
    (case l11 => k_is)
    (case c11 => k_is)
    (case k11 => k_is)
    (case a12 => k_is)
    (case l12 => k_is)
    (case c12 => k_is)
    (case k12 => k_is)
    (case a13 => k_is)
    (case l13 => k_is)
    (case c13 => k_is)
    (case k13 => k_is)
    (case a14 => k_is)
    (case l14 => k_is)
    (case c14 => k_is)
    (case k14 => k_is)
    (case a15 => k_is)
    (case l15 => k_is)
    (case c15 => k_is)
    (case k15 => k_is)
    (case a16 => k_is)
    (case l16 => k_is)
    (case c16 => k_is)
    (case k16 => k_is)
    (case a17 => k_is)
    (case l17 => k_is)
    (case c17 => k_is)
    (case k17 => k_is)
    (case a18 => k_is)
    (case l18 => k_is)
    (case c18 => k_is)
    (case k18 => k_is)
    (case a19 => k_is)
    (case l19 => k_is)
    (case c19 => k_is)
    (case k19 => k_is)
    (case a20 => k_is)
    (case l20 => k_is)
    (case c20 => k_is)
    (case k20 => k_is)
    (case a21 => k_is)
    (case l21 => k_is)
    (case c21 => k_is)
    (case k21 => k_is)
    (case a22 => k_is)
    (case l22 => k_is)
    (case c22 => k_is)
    (case k22 => k_is)
    (case a23 => k_is)
    (case l23 => k_is)
    (case c23 => k_is)
    (case k23 => k_is)
    (case a24 => k_is)
    (case l24 => k_is)
    (case c24 => k_is)
    (case k24 => k_is)
    (case a25 => k_is)
    (case l25 => k_is)
    (case c25 => k_is)
    (case k25 => k_is)
    (case a26 => k_is)
    (case l26 => k_is)
    (case c26 => k_is)
    (case k26 => k_is)
    (case a27 => k_is)
    (case l27 => k_is)
    (case c27 => k_is)
    (case k27 => k_is)
    (case a28 => k_is)
    (case l28 => k_is)
    (case c28 => k_is)
    (case k28 => k_is)
    (case a29 => k_is)
    (case l29 => k_is)
    (case c29 => k_is)
    (case k29 => k_is)
    (case a30 => k_is)
    (case l30 => k_is)
    (case c30 => k_is)
    (case k30 => k_is)
    (case z_bool => k_is)
    (case z_int => k_is)
    (case z_isinstance => k_is)
    (case z_len => k_is)
    (case z_list => k_is)
    (case z_range => k_is)
    (case z_reversed => k_is)
    (case z_sorted => k_is)
    (case z_str => k_is)
    (case z_sum => k_is)
    (case z_tuple => k_is)
    (case z_zip => k_is)


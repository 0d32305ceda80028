import PyProof.Rows.All
import Wide.All
import OpenK.AllK
import Wide.FinOn
import PyProof.EqAt
import PyProof.EqKinds
import PyProof.TupleCall
import PyProof.DictTable
import Open.SpecLaws
import KE.OsGo
import HandS.ForSpec
import HandS.ForMost
import HandS.Deep
import HandS.Walk
import HandS.CallLocal
import HandS.Evl
import HandS.Style
import HandS.HeadHook1
import PySem.Challenge.RW_standblocks_s01_answers
set_option Elab.async false
set_option linter.all false
set_option maxRecDepth 100000
set_option maxHeartbeats 4000000
/-! ### A. data in the heap, and what evaluates to what datum -/
namespace Sb
open PySem PySem.Spec PyProof.Rows L2
open Evl (Ex Ev EvT)

mutual
/-- v stands for the datum d: lists that the program made, tuples -/
inductive Dq (K : PySem.W.Frag) (H : Hp) : V → PyData → Prop
  | non : Dq K H .non .none
  | bl (b : Bool) : Dq K H (.bl b) (.bool b)
  | int (i : Int) : Dq K H (.int i) (.int i)
  | lst {a : Addr} {xs : List V} {ds : List PyData} : H a = some (.lst xs) → DqAll K H xs ds → Dq K H (.ref a) (.list ds)
  | tup {a : Addr} {xs : List V} {ds : List PyData} : SqT K H a xs → DqAll K H xs ds → Dq K H (.ref a) (.tuple ds)
inductive DqAll (K : PySem.W.Frag) (H : Hp) : List V → List PyData → Prop
  | nil : DqAll K H [] []
  | cons {v : V} {vs : List V} {d : PyData} {ds : List PyData} : Dq K H v d → DqAll K H vs ds → DqAll K H (v :: vs) (d :: ds)
end

/-- all but instances stands as before -/
def Kp (H H' : Hp) : Prop := ∀ a o, H a = some o → (∀ C dx fs, o ≠ HO.ins C dx fs) → H' a = some o
theorem Ex.kp {H H' : Hp} (e : Ex H H') : Kp H H' := fun a o h _ => e a o h
/-- all but p stands as before -/
def ExB (p : Addr) (H H' : Hp) : Prop := ∀ b o, H b = some o → b ≠ p → H' b = some o
theorem ExB.refl (p : Addr) (H : Hp) : ExB p H H := fun _ _ h _ => h
theorem ExB.trans {p : Addr} {H H1 H2 : Hp} (a : ExB p H H1) (b : ExB p H1 H2) : ExB p H H2 := fun c o h n => b c o (a c o h n) n
theorem Ex.exb {p : Addr} {H H' : Hp} (e : Ex H H') : ExB p H H' := fun b o h _ => e b o h
theorem ExB.kp {p : Addr} {H H' : Hp} (e : ExB p H H') {C dx : Addr} {fs : List (Str × V)} (h : H p = some (.ins C dx fs)) : Kp H H' := fun a o ha hn => e a o ha fun z => by
  subst z
  rw [h] at ha
  exact hn _ _ _ (Option.some.inj ha).symm
theorem exb_upd {p : Addr} {H : Hp} {o : HO} : ExB p H (upd H p o) := fun b u h n => by rw [upd_ne n]; exact h

section
variable {K : PySem.W.Frag} {H H' : Hp}
theorem kp_l {a : Addr} {xs : List V} (e : Kp H H') (h : H a = some (.lst xs)) : H' a = some (.lst xs) := e a _ h (by intro _ _ _ z; cases z)
theorem kp_t {a : Addr} {xs : List V} (e : Kp H H') (h : SqT K H a xs) : SqT K H' a xs := by
  rcases h with (h | ⟨o, h⟩) | h
  · exact .inl (.inl (e a _ h (by intro _ _ _ z; cases z)))
  · exact .inl (.inr ⟨o, e a _ h (by intro _ _ _ z; cases z)⟩)
  · exact .inr h
mutual
theorem Dq.monoK (e : Kp H H') : ∀ (d : PyData) (v : V), Dq K H v d → Dq K H' v d
  | .none, _, x => by cases x; exact .non
  | .bool b, _, x => by cases x; exact .bl b
  | .int i, _, x => by cases x; exact .int i
  | .str s, _, x => by cases x
  | .list ds, _, x => by
    cases x with
    | lst h a => exact .lst (kp_l e h) (DqAll.monoK e ds _ a)
  | .tuple ds, _, x => by
    cases x with
    | tup h a => exact .tup (kp_t e h) (DqAll.monoK e ds _ a)
  | .dict _, _, x => by cases x
theorem DqAll.monoK (e : Kp H H') : ∀ (ds : List PyData) (vs : List V), DqAll K H vs ds → DqAll K H' vs ds
  | [], _, x => by cases x; exact .nil
  | d :: ds, _, x => by
    cases x with
    | cons a b => exact .cons (Dq.monoK e d _ a) (DqAll.monoK e ds _ b)
end
theorem Dq.mono {v : V} {d : PyData} (e : Ex H H') (h : Dq K H v d) : Dq K H' v d := Dq.monoK (Ex.kp e) d v h
theorem DqAll.mono {v : List V} {d : List PyData} (e : Ex H H') (h : DqAll K H v d) : DqAll K H' v d := DqAll.monoK (Ex.kp e) d v h
theorem Dq.kp {v : V} {d : PyData} (e : Kp H H') (h : Dq K H v d) : Dq K H' v d := Dq.monoK e d v h
theorem DqAll.kp {v : List V} {d : List PyData} (e : Kp H H') (h : DqAll K H v d) : DqAll K H' v d := DqAll.monoK e d v h
mutual
theorem Dq.dp : ∀ (d : PyData) (v : V), Dq K H v d → Dp K H v d
  | .none, _, x => by cases x; exact .non
  | .bool b, _, x => by cases x; exact .bl b
  | .int i, _, x => by cases x; exact .int i
  | .str s, _, x => by cases x
  | .list ds, _, x => by
    cases x with
    | lst h a => exact .lst (SqL.of h) (DqAll.dp ds _ a)
  | .tuple ds, _, x => by
    cases x with
    | tup h a => exact .tup h (DqAll.dp ds _ a)
  | .dict _, _, x => by cases x
theorem DqAll.dp : ∀ (ds : List PyData) (vs : List V), DqAll K H vs ds → DpAll K H vs ds
  | [], _, x => by cases x; exact .nil
  | d :: ds, _, x => by
    cases x with
    | cons a b => exact .cons (Dq.dp d _ a) (DqAll.dp ds _ b)
end
theorem DqAll.len : ∀ {vs : List V} {ds : List PyData}, DqAll K H vs ds → vs.length = ds.length
  | _, _, .nil => rfl
  | _, _, .cons _ b => congrArg (· + 1) (DqAll.len b)
theorem DqAll.get : ∀ {vs : List V} {ds : List PyData} {i : Nat} {x : V}, DqAll K H vs ds → vs[i]? = some x → ∃ d, ds[i]? = some d ∧ Dq K H x d
  | _, _, _, _, .nil, e => by simp at e
  | _, _, 0, _, .cons r _, e => by simp at e; subst e; exact ⟨_, rfl, r⟩
  | _, _, i + 1, x, .cons _ t, e => by
    obtain ⟨u, h1, h2⟩ := DqAll.get (i := i) (x := x) t (by simpa using e)
    exact ⟨u, by simpa using h1, h2⟩
theorem DqAll.at_ : ∀ {vs : List V} {ds : List PyData} {i : Nat} {d : PyData}, DqAll K H vs ds → ds[i]? = some d → ∃ x, vs[i]? = some x ∧ Dq K H x d
  | _, _, _, _, .nil, e => by simp at e
  | _, _, 0, _, .cons r _, e => by simp at e; subst e; exact ⟨_, rfl, r⟩
  | _, _, i + 1, x, .cons _ t, e => by
    obtain ⟨u, h1, h2⟩ := DqAll.at_ (i := i) (d := x) t (by simpa using e)
    exact ⟨u, by simpa using h1, h2⟩
theorem DqAll.append : ∀ {xs ys : List V} {ds es : List PyData}, DqAll K H xs ds → DqAll K H ys es → DqAll K H (xs ++ ys) (ds ++ es)
  | _, _, _, _, .nil, s => s
  | _, _, _, _, .cons r t, s => .cons r (DqAll.append t s)
theorem DqAll.take : ∀ {xs : List V} {ds : List PyData} (n : Nat), DqAll K H xs ds → DqAll K H (xs.take n) (ds.take n)
  | _, _, 0, _ => .nil
  | _, _, _ + 1, .nil => .nil
  | _, _, n + 1, .cons r t => .cons r (DqAll.take n t)
theorem DqAll.drop : ∀ {xs : List V} {ds : List PyData} (n : Nat), DqAll K H xs ds → DqAll K H (xs.drop n) (ds.drop n)
  | _, _, 0, r => r
  | _, _, _ + 1, .nil => .nil
  | _, _, n + 1, .cons _ t => DqAll.drop n t
theorem DqAll.ints : ∀ (ns : List Int), DqAll K H (ns.map V.int) (ns.map PyData.int)
  | [] => .nil
  | n :: r => .cons (.int n) (DqAll.ints r)
theorem DqAll.ints_of : ∀ {ns : List Int} {xs : List V}, DqAll K H xs (ns.map PyData.int) → xs = ns.map V.int
  | [], _, h => by cases h; rfl
  | n :: r, _, h => by
    cases h with
    | cons a b =>
      cases a
      rw [DqAll.ints_of b]
      rfl
theorem DqAll.bls_of : ∀ {bs : List Bool} {xs : List V}, DqAll K H xs (bs.map PyData.bool) → xs = bs.map V.bl
  | [], _, h => by cases h; rfl
  | n :: r, _, h => by
    cases h with
    | cons a b =>
      cases a
      rw [DqAll.bls_of b]
      rfl
theorem Dq.int_of {v : V} {i : Int} (h : Dq K H v (.int i)) : v = .int i := by cases h; rfl
theorem Dq.bl_of {v : V} {b : Bool} (h : Dq K H v (.bool b)) : v = .bl b := by cases h; rfl
theorem Dq.lst_of {v : V} {ds : List PyData} (h : Dq K H v (.list ds)) : ∃ a xs, v = .ref a ∧ H a = some (.lst xs) ∧ DqAll K H xs ds := by
  cases h with
  | lst h a => exact ⟨_, _, rfl, h, a⟩
theorem Dq.tup_of {v : V} {ds : List PyData} (h : Dq K H v (.tuple ds)) : ∃ a xs, v = .ref a ∧ SqT K H a xs ∧ DqAll K H xs ds := by
  cases h with
  | tup h a => exact ⟨_, _, rfl, h, a⟩
theorem DqAll.two {vs : List V} {d e : PyData} (h : DqAll K H vs [d, e]) : ∃ x y, vs = [x, y] ∧ Dq K H x d ∧ Dq K H y e := by
  cases h with
  | cons a b =>
    cases b with
    | cons c z =>
      cases z
      exact ⟨_, _, rfl, a, c⟩
theorem DqAll.one {vs : List V} {d : PyData} (h : DqAll K H vs [d]) : ∃ x, vs = [x] ∧ Dq K H x d := by
  cases h with
  | cons a b =>
    cases b
    exact ⟨_, rfl, a⟩
theorem DqAll.three {vs : List V} {d e f : PyData} (h : DqAll K H vs [d, e, f]) : ∃ x y z, vs = [x, y, z] ∧ Dq K H x d ∧ Dq K H y e ∧ Dq K H z f := by
  cases h with
  | cons a b =>
    obtain ⟨y, z, rfl, h1, h2⟩ := DqAll.two b
    exact ⟨_, _, _, rfl, a, h1, h2⟩
theorem DqAll.four {vs : List V} {d e f g : PyData} (h : DqAll K H vs [d, e, f, g]) : ∃ x y z u, vs = [x, y, z, u] ∧ Dq K H x d ∧ Dq K H y e ∧ Dq K H z f ∧ Dq K H u g := by
  cases h with
  | cons a b =>
    obtain ⟨y, z, u, rfl, h1, h2, h3⟩ := DqAll.three b
    exact ⟨_, _, _, _, rfl, a, h1, h2, h3⟩
end

/-! ### B. evaluation to a datum -/
def ED (K : PySem.W.Frag) (te : TE) (σ : L2.St) (H : Hp) (d : PyData) : Prop := ∀ H1, Ex H H1 → ∀ Q : VK, (∀ v H2, Ex H1 H2 → Dq K H2 v d → Q v H2) → te σ H1 Q
def EDA (K : PySem.W.Frag) (ta : TA) (σ : L2.St) (H : Hp) (ds : List PyData) : Prop := ∀ H1, Ex H H1 → ∀ Q : List V → Hp → Prop, (∀ vs H2, Ex H1 H2 → DqAll K H2 vs ds → Q vs H2) → ta σ H1 Q
def RD (K : PySem.W.Frag) (r : R2) (d1 d2 d : PyData) : Prop := ∀ H1 x y, Dq K H1 x d1 → Dq K H1 y d2 → ∀ Q : VK, (∀ v H2, Ex H1 H2 → Dq K H2 v d → Q v H2) → r x y H1 Q
/-- a call on values -/
def RCD (K : PySem.W.Frag) (r : List V → Hp → VK → Prop) (ds : List PyData) (d : PyData) : Prop := ∀ H1 vs, DqAll K H1 vs ds → ∀ Q : VK, (∀ v H2, Ex H1 H2 → Dq K H2 v d → Q v H2) → r vs H1 Q
section
variable {K : PySem.W.Frag} {σ : L2.St} {H H' : Hp} {ta tb tc te : TE} {t u : TT} {d d1 d2 d3 : PyData} {r r' : R2} {v : V} {tas : TA} {ds : List PyData}
theorem ED.mono (e : Ex H H') (h : ED K te σ H d) : ED K te σ H' d := fun H1 a Q q => h H1 (e.trans a) Q q
theorem EDA.mono (e : Ex H H') (h : EDA K tas σ H ds) : EDA K tas σ H' ds := fun H1 a Q q => h H1 (e.trans a) Q q
theorem EvT.mono' {b : Bool} (e : Ex H H') (h : EvT t σ H b) : EvT t σ H' b := fun H1 a Q q => h H1 (e.trans a) Q q
theorem ED.go (h : ED K te σ H d) {Q : VK} (q : ∀ v H2, Ex H H2 → Dq K H2 v d → Q v H2) : te σ H Q := h H (Ex.refl H) Q q
theorem EDA.go (h : EDA K tas σ H ds) {Q : List V → Hp → Prop} (q : ∀ v H2, Ex H H2 → DqAll K H2 v ds → Q v H2) : tas σ H Q := h H (Ex.refl H) Q q
theorem evt_go {b : Bool} (h : EvT t σ H b) {Q : Bool → Hp → Prop} (q : ∀ H2, Ex H H2 → Q b H2) : t σ H Q := h H (Ex.refl H) Q q
theorem ed_ev (h : Ev te σ H v) (hd : Dq K H v d) : ED K te σ H d := fun H1 e Q q => h H1 e Q fun H2 e2 => q v H2 e2 (hd.mono (e.trans e2))
theorem ed_var {i : Nat} (h : σ[i]? = some (some v)) (hd : Dq K H v d) : ED K (tVar i) σ H d := ed_ev (Evl.ev_var h) hd
theorem ed_int {i : Int} : ED K (tC (.int i)) σ H (.int i) := fun H1 _ _ q => q _ H1 (Ex.refl H1) (.int i)
theorem ed_bl {b : Bool} : ED K (tC (.bl b)) σ H (.bool b) := fun H1 _ _ q => q _ H1 (Ex.refl H1) (.bl b)
theorem ed_is (h : ED K te σ H d) (e : d = d1) : ED K te σ H d1 := e ▸ h
theorem ed_op (ha : ED K ta σ H d1) (hb : ED K tb σ H d2) (hr : RD K r d1 d2 d) : ED K (tOp r ta tb) σ H d := fun H1 e Q q =>
  ha H1 e _ fun x H2 e2 hx => hb H2 (e.trans e2) _ fun y H3 e3 hy => hr H3 x y (hx.mono e3) hy Q fun v H4 e4 hv => q v H4 ((e2.trans e3).trans e4) hv
theorem ed_fresh {xs : List V} {H1 : Hp} (hx : DqAll K H1 xs ds) {p : Addr} (hp : H1 p = none) : Ex H1 (upd H1 p (.lst xs)) ∧ Dq K (upd H1 p (.lst xs)) (.ref p) (.list ds) :=
  ⟨Evl.Ex.new hp, .lst upd_same (hx.mono (Evl.Ex.new hp))⟩
theorem rd_i {g : Int → Int → V} {i j : Int} (h : ∀ H, Dq K H (g i j) d) : RD K (rI0 g) (.int i) (.int j) d := fun H1 x y hx hy Q q => by
  cases hx; cases hy
  exact ⟨i, j, rfl, rfl, q _ H1 (Ex.refl H1) (h H1)⟩
theorem rd_add {i j : Int} : RD K (rI0 fun i j => .int (i + j)) (.int i) (.int j) (.int (i + j)) := rd_i fun _ => .int _
theorem rd_sub {i j : Int} : RD K (rI0 fun i j => .int (i - j)) (.int i) (.int j) (.int (i - j)) := rd_i fun _ => .int _
theorem rd_lt {i j : Int} : RD K (rI0 fun i j => .bl (decide (i < j))) (.int i) (.int j) (.bool (decide (i < j))) := rd_i fun _ => .bl _
theorem rd_le {i j : Int} : RD K (rI0 fun i j => .bl (decide (i ≤ j))) (.int i) (.int j) (.bool (decide (i ≤ j))) := rd_i fun _ => .bl _
theorem rd_gt {i j : Int} : RD K (rI0 fun i j => .bl (decide (j < i))) (.int i) (.int j) (.bool (decide (j < i))) := rd_i fun _ => .bl _
theorem rd_ge {i j : Int} : RD K (rI0 fun i j => .bl (decide (j ≤ i))) (.int i) (.int j) (.bool (decide (j ≤ i))) := rd_i fun _ => .bl _
theorem v_dec (i j : Int) : decide (V.int i = V.int j) = decide (i = j) := by
  by_cases h : i = j
  · subst h; simp
  · rw [decide_eq_false h, decide_eq_false fun z => h (V.int.inj z)]
theorem rd_eq {i j : Int} : RD K rEq (.int i) (.int j) (.bool (decide (i = j))) := fun H1 x y hx hy Q q => by
  cases hx; cases hy
  refine ⟨rfl, ?_⟩
  rw [v_dec]
  exact q _ H1 (Ex.refl H1) (.bl _)
theorem rd_ne {i j : Int} : RD K rNe (.int i) (.int j) (.bool (!decide (i = j))) := fun H1 x y hx hy Q q => by
  cases hx; cases hy
  refine ⟨rfl, ?_⟩
  rw [v_dec]
  exact q _ H1 (Ex.refl H1) (.bl _)
theorem sz_of {n : Nat} (h : n ≤ 100000) : n ≤ sizeLine := Nat.le_trans h (by decide)
/-- xs + ys of two lists -/
theorem rd_cat {xs ys : List PyData} (h : xs.length + ys.length ≤ 16000000) : RD K rCat (.list xs) (.list ys) (.list (xs ++ ys)) := fun H1 x y hx hy Q q => by
  obtain ⟨a, us, rfl, ha, hu⟩ := hx.lst_of
  obtain ⟨b, ws, rfl, hb, hw⟩ := hy.lst_of
  refine ⟨a, b, us, ws, rfl, rfl, ha, hb, by rw [hu.len, hw.len]; exact Nat.le_trans h (by decide), fun p hp => ?_⟩
  obtain ⟨e, z⟩ := ed_fresh (hu.append hw) hp
  exact q _ _ e z
theorem rd_ixL {xs : List PyData} {j : Nat} (h : xs[j]? = some d) : RD K (rIxL K) (.list xs) (.int (j : Int)) d := fun H1 x y hx hy Q q => by
  obtain ⟨a, us, rfl, ha, hu⟩ := hx.lst_of
  cases hy
  obtain ⟨w, h1, h2⟩ := hu.at_ h
  exact ⟨a, us, _, w, rfl, rfl, SqL.of ha, atI_nat h1, q w H1 (Ex.refl H1) h2⟩
theorem rd_ixT {xs : List PyData} {j : Nat} (h : xs[j]? = some d) : RD K (rIxT K) (.tuple xs) (.int (j : Int)) d := fun H1 x y hx hy Q q => by
  obtain ⟨a, us, rfl, ha, hu⟩ := hx.tup_of
  cases hy
  obtain ⟨w, h1, h2⟩ := hu.at_ h
  exact ⟨a, us, _, w, rfl, rfl, ha, atI_nat h1, q w H1 (Ex.refl H1) h2⟩
/-- i in t, a tuple of ints -/
theorem inV_ints (i : Int) : ∀ ns : List Int, inV (.int i) (ns.map V.int) = decide (i ∈ ns)
  | [] => by simp [inV]
  | n :: r => by
    have ih := inV_ints i r
    unfold inV at ih ⊢
    rw [List.map_cons, List.any_cons, ih]
    by_cases h : n = i
    · subst h
      have e1 : eqV (V.int n) (V.int n) = true := by simp [eqV]
      rw [e1, Bool.true_or, decide_eq_true (List.mem_cons_self ..)]
    · have e1 : eqV (V.int n) (V.int i) = false := by
        have := v_dec n i
        simp [eqV, h]
      rw [e1, Bool.false_or]
      have e2 : (i ∈ n :: r) ↔ i ∈ r := by simp [List.mem_cons, Ne.symm h]
      exact decide_eq_decide.mpr e2.symm
theorem flat_ints (ns : List Int) : (ns.map V.int).all flatV = true := by
  rw [List.all_eq_true]
  intro x hx
  obtain ⟨n, _, rfl⟩ := List.mem_map.mp hx
  rfl
theorem rd_inT {i : Int} {ns : List Int} : RD K (rIn K false) (.int i) (.tuple (ns.map PyData.int)) (.bool (decide (i ∈ ns))) := fun H1 x y hx hy Q q => by
  cases hx
  obtain ⟨a, us, rfl, ha, hu⟩ := hy.tup_of
  have e := DqAll.ints_of hu
  subst e
  refine ⟨a, _, rfl, .inr ha, rfl, flat_ints ns, ?_⟩
  rw [if_neg Bool.false_ne_true, inV_ints]
  exact q _ H1 (Ex.refl H1) (.bl _)
/-- d in xs, d any datum -/
theorem rd_inD {xs : List PyData} (h1 : SeqAt.shaped d = true) (h2 : SeqAt.shaped (.list xs) = true) : RD K (rInD K) d (.list xs) (.bool (xs.any fun z => PyData.eqv z d)) := fun H1 x y hx hy Q q =>
  ⟨d, xs, Dq.dp _ _ hx, Dq.dp _ _ hy, h1, h2, q _ H1 (Ex.refl H1) (.bl _)⟩
theorem rd_neD {e : PyData} (h1 : SeqAt.shaped d = true) (h2 : SeqAt.shaped e = true) : RD K (rNeD K) d e (.bool (!PyData.eqv d e)) := fun H1 x y hx hy Q q =>
  ⟨d, e, Dq.dp _ _ hx, Dq.dp _ _ hy, h1, h2, q _ H1 (Ex.refl H1) (.bl _)⟩
theorem ed_chain {k : Bool} (ha : ED K ta σ H d1) (hb : ED K tb σ H d2) (hr : RD K r d1 d2 (.bool k)) (hc : k = true → ED K tc σ H d3) {b : Bool} (hr2 : k = true → RD K r' d2 d3 (.bool b)) :
    ED K (tChain r r' ta tb tc) σ H (.bool (k && b)) := fun H1 e Q q =>
  ha H1 e _ fun x H2 e2 hx => hb H2 (e.trans e2) _ fun y H3 e3 hy => hr H3 x y (hx.mono e3) hy _ fun z H4 e4 hz => by
    have hz' := hz.bl_of
    subst hz'
    refine ⟨k, rfl, ?_⟩
    cases k with
    | true =>
      refine (if_pos rfl).mpr ?_
      exact hc rfl H4 (((e.trans e2).trans e3).trans e4) _ fun w H5 e5 hw => hr2 rfl H5 y w (hy.mono (e4.trans e5)) hw Q fun v H6 e6 hv => q v H6 ((((e2.trans e3).trans e4).trans e5).trans e6) hv
    | false =>
      refine (if_neg Bool.false_ne_true).mpr ?_
      exact q _ H4 ((e2.trans e3).trans e4) (.bl false)
/-! arguments, displays, calls -/
theorem ea_nil : EDA K tNil σ H [] := fun H1 _ _ q => q [] H1 (Ex.refl H1) .nil
theorem ea_cons (h : ED K ta σ H d) (hs : EDA K tas σ H ds) : EDA K (tCons ta tas) σ H (d :: ds) := fun H1 e Q q =>
  h H1 e _ fun v H2 e2 hv => hs H2 (e.trans e2) _ fun vs H3 e3 hvs => q (v :: vs) H3 (e2.trans e3) (.cons (hv.mono e3) hvs)
theorem ed_lst (h : EDA K tas σ H ds) (hl : ds.length ≤ 100000) : ED K (tLst tas) σ H (.list ds) := fun H1 e Q q =>
  h H1 e _ fun vs H2 e2 hvs => ⟨by rw [hvs.len]; exact sz_of hl, fun p hp => q _ _ (e2.trans (ed_fresh hvs hp).1) (ed_fresh hvs hp).2⟩
theorem ed_tup (h : EDA K tas σ H ds) (hl : ds.length ≤ 100000) : ED K (tTup tas) σ H (.tuple ds) := fun H1 e Q q =>
  h H1 e _ fun vs H2 e2 hvs => ⟨by rw [hvs.len]; exact sz_of hl, fun p hp => q _ _ (e2.trans (Evl.Ex.new hp)) (.tup (SqT.of upd_same) (hvs.mono (Evl.Ex.new hp)))⟩
/-- the promise of a def that only reads: R: its arguments and its answer -/
def spP (K : PySem.W.Frag) (R : List PyData → PyData → Prop) : Sp := fun vs H Q _ => ∃ ds d, DqAll K H vs ds ∧ R ds d ∧ ∀ v H', Ex H H' → Dq K H' v d → Q v H'
theorem ed_call {R : List PyData → PyData → Prop} {E : XK} (h : EDA K tas σ H ds) (hR : R ds d) : ED K (tCall (spP K R) [] E tas) σ H d := fun H1 e Q q =>
  h H1 e _ fun vs H2 e2 hvs => ⟨ds, d, by rw [List.append_nil]; exact hvs, hR, fun v H3 e3 hv => q v H3 (e2.trans e3) hv⟩
theorem ed_cb {rc : List V → Hp → VK → Prop} (h : EDA K tas σ H ds) (hr : RCD K rc ds d) : ED K (tCB rc tas) σ H d := fun H1 e Q q =>
  h H1 e _ fun vs H2 e2 hvs => hr H2 vs hvs Q fun v H3 e3 hv => q v H3 (e2.trans e3) hv
theorem rc_len {xs : List PyData} : RCD K (fun xs H Q => ∃ p ys, xs = [.ref p] ∧ (SqL K H p ys ∨ SqT K H p ys) ∧ Q (.int ys.length) H) [.list xs] (.int (xs.length : Int)) := fun H1 vs hvs Q q => by
  obtain ⟨x, rfl, hx⟩ := hvs.one
  obtain ⟨a, us, rfl, ha, hu⟩ := hx.lst_of
  refine ⟨a, us, rfl, .inl (SqL.of ha), ?_⟩
  rw [hu.len]
  exact q _ H1 (Ex.refl H1) (.int _)
theorem rc_list {xs : List PyData} : RCD K (fun xs H Q => ∃ p ys, xs = [.ref p] ∧ (SqL K H p ys ∨ SqT K H p ys) ∧ ∀ l, H l = none → Q (.ref l) (upd H l (.lst ys))) [.list xs] (.list xs) := fun H1 vs hvs Q q => by
  obtain ⟨x, rfl, hx⟩ := hvs.one
  obtain ⟨a, us, rfl, ha, hu⟩ := hx.lst_of
  exact ⟨a, us, rfl, .inl (SqL.of ha), fun l hl => q _ _ (ed_fresh hu hl).1 (ed_fresh hu hl).2⟩
theorem rc_min {i j : Int} : RCD K (fun xs H Q => ∃ i j, xs = [.int i, .int j] ∧ Q (.int (if j < i then j else i)) H) [.int i, .int j] (.int (if j < i then j else i)) := fun H1 vs hvs Q q => by
  obtain ⟨x, y, rfl, hx, hy⟩ := hvs.two
  cases hx; cases hy
  exact ⟨i, j, rfl, q _ H1 (Ex.refl H1) (.int _)⟩
theorem rc_max {i j : Int} : RCD K (fun xs H Q => ∃ i j, xs = [.int i, .int j] ∧ Q (.int (if j > i then j else i)) H) [.int i, .int j] (.int (if j > i then j else i)) := fun H1 vs hvs Q q => by
  obtain ⟨x, y, rfl, hx, hy⟩ := hvs.two
  cases hx; cases hy
  exact ⟨i, j, rfl, q _ H1 (Ex.refl H1) (.int _)⟩
theorem rc_sum {ns : List Int} : RCD K (rSum K) [.list (ns.map PyData.int)] (.int ns.sum) := fun H1 vs hvs Q q => by
  obtain ⟨x, rfl, hx⟩ := hvs.one
  obtain ⟨a, us, rfl, ha, hu⟩ := hx.lst_of
  have e := DqAll.ints_of hu
  subst e
  exact ⟨a, ns, rfl, SqL.of ha, q _ H1 (Ex.refl H1) (.int _)⟩
theorem rc_any {bs : List Bool} : RCD K (rAny K) [.list (bs.map PyData.bool)] (.bool (bs.any id)) := fun H1 vs hvs Q q => by
  obtain ⟨x, rfl, hx⟩ := hvs.one
  obtain ⟨a, us, rfl, ha, hu⟩ := hx.lst_of
  have e := DqAll.bls_of hu
  subst e
  exact ⟨a, bs, rfl, SqL.of ha, q _ H1 (Ex.refl H1) (.bl _)⟩
theorem rc_all {bs : List Bool} : RCD K (rAll K) [.list (bs.map PyData.bool)] (.bool (bs.all id)) := fun H1 vs hvs Q q => by
  obtain ⟨x, rfl, hx⟩ := hvs.one
  obtain ⟨a, us, rfl, ha, hu⟩ := hx.lst_of
  have e := DqAll.bls_of hu
  subst e
  exact ⟨a, bs, rfl, SqL.of ha, q _ H1 (Ex.refl H1) (.bl _)⟩
/-! slices -/
def EOD (K : PySem.W.Frag) (to : TO) (σ : L2.St) (H : Hp) (o : Option Int) : Prop := ∀ H1, Ex H H1 → ∀ Q : Option Int → Hp → Prop, (∀ H2, Ex H1 H2 → Q o H2) → to σ H1 Q
theorem eo_none : EOD K tNoPart σ H none := fun H1 _ _ q => q H1 (Ex.refl H1)
theorem eo_some {i : Int} (h : ED K te σ H (.int i)) : EOD K (tPart te) σ H (some i) := fun H1 e Q q => h H1 e _ fun v H2 e2 hv => ⟨i, hv.int_of, q H2 e2⟩
def cutD (xs : List PyData) (lo hi : Option Int) : List PyData := (xs.drop (HT.sIx xs.length 0 lo)).take (HT.sIx xs.length xs.length hi - HT.sIx xs.length 0 lo)
theorem ed_slice {xs : List PyData} {lo hi : Option Int} {tl th : TO} (h : ED K te σ H (.list xs)) (hl : EOD K tl σ H lo) (hh : EOD K th σ H hi) : ED K (tSl (rSlL K) te tl th) σ H (.list (cutD xs lo hi)) := fun H1 e Q q =>
  h H1 e _ fun v H2 e2 hv => hl H2 (e.trans e2) _ fun H3 e3 => hh H3 ((e.trans e2).trans e3) _ fun H4 e4 => by
    obtain ⟨a, us, rfl, ha, hu⟩ := (hv.mono (e3.trans e4)).lst_of
    refine ⟨a, us, rfl, SqL.of ha, fun p hp => ?_⟩
    have hc : DqAll K H4 (cutV us lo hi) (cutD xs lo hi) := by
      unfold cutV cutD
      rw [hu.len]
      exact (hu.drop _).take _
    exact q _ _ (((e2.trans e3).trans e4).trans (ed_fresh hc hp).1) (ed_fresh hc hp).2
/-! tests -/
def ET (_ : PySem.W.Frag) (t : TT) (σ : L2.St) (H : Hp) (b : Bool) : Prop := EvT t σ H b
theorem et_b {b : Bool} (h : ED K te σ H (.bool b)) : ET K (tB te) σ H b := fun H1 e Q q => h H1 e _ fun v H2 e2 hv => ⟨b, hv.bl_of, q H2 e2⟩
theorem et_t {b : Bool} (h : ED K te σ H (.bool b)) : ET K (tTest te) σ H b := fun H1 e Q q => h H1 e _ fun v H2 e2 hv => ⟨b, hv.bl_of, q H2 e2⟩
theorem et_not {b : Bool} (h : ET K t σ H b) : ET K (tNot t) σ H (!b) := Evl.et_not h
theorem et_and {a b : Bool} (h : ET K t σ H a) (h2 : a = true → ET K u σ H b) : ET K (tAnd t u) σ H (a && b) := Evl.et_and h h2
theorem et_or {a b : Bool} (h : ET K t σ H a) (h2 : a = false → ET K u σ H b) : ET K (tOr t u) σ H (a || b) := Evl.et_or h h2
theorem et_is {a b : Bool} (h : ET K t σ H a) (e : a = b) : ET K t σ H b := e ▸ h
theorem et_yes : ET K tYes σ H true := fun H1 _ _ q => q H1 (Ex.refl H1)
theorem ed_notV {b : Bool} (h : ED K te σ H (.bool b)) : ED K (tNotV te) σ H (.bool (!b)) := fun H1 e Q q => h H1 e _ fun v H2 e2 hv => ⟨b, hv.bl_of, q _ H2 e2 (.bl _)⟩
theorem ed_andV {a b : Bool} (h1 : ED K ta σ H (.bool a)) (h2 : a = true → ED K tb σ H (.bool b)) : ED K (tAndV ta tb) σ H (.bool (a && b)) := fun H1 e Q q => h1 H1 e _ fun v H2 e2 hv => ⟨a, hv.bl_of, by
  cases a with
  | true => exact (if_pos rfl).mpr (h2 rfl H2 (e.trans e2) Q fun v H3 e3 hv => q v H3 (e2.trans e3) hv)
  | false => exact (if_neg Bool.false_ne_true).mpr (q _ H2 e2 (.bl false))⟩
/-- an instance's field -/
theorem ev_fld {p C dx : Addr} {fs : List (Str × V)} {f : Str} (h : Ev te σ H (.ref p)) (hp : H p = some (.ins C dx fs)) (hc : Cls K C) (hn : NoAttr K C f) (hl : fs.lookup f = some v) : Ev (tFld K te f) σ H v := fun H1 e Q q =>
  h H1 e _ fun H2 e2 => ⟨p, C, dx, fs, v, rfl, e2 _ _ (e _ _ hp), hc, hn, hl, q H2 e2⟩
end

/-! ### C. walks over data: for and comprehensions -/
structure WalkD (K : PySem.W.Frag) (J : It) (H : Hp) (items : List PyData) : Prop where
  goes : ∀ i H3, Ex H H3 → i < items.length → J.go i H3
  stops : ∀ H3, Ex H H3 → J.stop items.length H3
  yields : ∀ i H3 x H4, Ex H H3 → i < items.length → J.yld i H3 x H4 → Ex H3 H4 ∧ ∃ d, items[i]? = some d ∧ Dq K H4 x d
/-- the walked thing is new | stood in H already -/
def WD (K : PySem.W.Frag) (wi : TI) (σ : L2.St) (H : Hp) (items : List PyData) : Prop := ∀ H1, Ex H H1 → ∀ R : It → Hp → Prop, (∀ J H2, Ex H1 H2 → WalkD K J H2 items → R J H2) → wi σ H1 R
def WE (K : PySem.W.Frag) (wi : TI) (σ : L2.St) (H : Hp) (items : List PyData) : Prop := ∀ H1, Ex H H1 → ∀ R : It → Hp → Prop, (∀ J H2, Ex H1 H2 → WalkD K J H items → R J H2) → wi σ H1 R
section
variable {K : PySem.W.Frag} {σ : L2.St} {H H' : Hp} {tl ta te : TE} {t : TT} {items : List PyData} {wi : TI} {g : TG}
theorem WalkD.mono {J : It} (e : Ex H H') (w : WalkD K J H items) : WalkD K J H' items := ⟨fun i H3 e3 => w.goes i H3 (e.trans e3), fun H3 e3 => w.stops H3 (e.trans e3), fun i H3 x H4 e3 => w.yields i H3 x H4 (e.trans e3)⟩
theorem WE.wd (h : WE K wi σ H items) : WD K wi σ H items := fun H1 e R r => h H1 e R fun J H2 e2 w => r J H2 e2 (w.mono (e.trans e2))
theorem walkD_list {a : Addr} {xs : List V} (h : H a = some (.lst xs)) (hx : DqAll K H xs items) : WalkD K (Itl K a) H items := by
  have hl := hx.len
  refine ⟨fun i H3 e hi => (walk_list (xs := xs)).goes i H3 (by omega) (SqL.of (e _ _ h)), fun H3 e => ?_, fun i H3 x H4 e hi y => ?_⟩
  · have := (walk_list (K := K) (a := a) (xs := xs)).stops H3 (SqL.of (e _ _ h))
    rw [hl] at this
    exact this
  · obtain ⟨rfl, hi2⟩ := (walk_list (xs := xs)).yields i H3 x H4 (by omega) (SqL.of (e _ _ h)) y
    obtain ⟨d, h1, h2⟩ := hx.get hi2
    exact ⟨Ex.refl _, d, h1, h2.mono e⟩
theorem walkD_tup {a : Addr} {xs : List V} (h : SqT K H a xs) (hx : DqAll K H xs items) : WalkD K (Itt K a) H items := by
  have hl := hx.len
  refine ⟨fun i H3 e hi => (walk_tup (xs := xs)).goes i H3 (by omega) (Evl.ex_t e h), fun H3 e => ?_, fun i H3 x H4 e hi y => ?_⟩
  · have := (walk_tup (K := K) (a := a) (xs := xs)).stops H3 (Evl.ex_t e h)
    rw [hl] at this
    exact this
  · obtain ⟨rfl, hi2⟩ := (walk_tup (xs := xs)).yields i H3 x H4 (by omega) (Evl.ex_t e h) y
    obtain ⟨d, h1, h2⟩ := hx.get hi2
    exact ⟨Ex.refl _, d, h1, h2.mono e⟩
theorem wd_list (h : ED K tl σ H (.list items)) : WD K (iList K tl) σ H items := fun H1 e R r => h H1 e _ fun v H2 e2 hv => by
  obtain ⟨a, xs, rfl, ha, hx⟩ := hv.lst_of
  exact ⟨a, rfl, ⟨xs, SqL.of ha⟩, r _ H2 e2 (walkD_list ha hx)⟩
theorem we_list {v : V} (h : Ev tl σ H v) (hd : Dq K H v (.list items)) : WE K (iList K tl) σ H items := fun H1 e R r => h H1 e _ fun H2 e2 => by
  obtain ⟨a, xs, rfl, ha, hx⟩ := hd.lst_of
  exact ⟨a, rfl, ⟨xs, SqL.of ((e.trans e2) _ _ ha)⟩, r _ H2 e2 (walkD_list ha hx)⟩
theorem we_tup {v : V} (h : Ev tl σ H v) (hd : Dq K H v (.tuple items)) : WE K (iTup K tl) σ H items := fun H1 e R r => h H1 e _ fun H2 e2 => by
  obtain ⟨a, xs, rfl, ha, hx⟩ := hd.tup_of
  exact ⟨a, rfl, ⟨xs, Evl.ex_t (e.trans e2) ha⟩, r _ H2 e2 (walkD_tup ha hx)⟩
theorem we_rng {tas : TA} {n : Nat} (h : EDA K tas σ H [.int (n : Int)]) (hn : n ≤ 1000000) : WE K (iRng1 tas) σ H ((List.range n).map fun (i : Nat) => PyData.int (i : Int)) := fun H1 e R r => h H1 e _ fun vs H2 e2 hv => by
  obtain ⟨x, rfl, hx⟩ := hv.one
  cases hx
  refine ⟨(n : Int), rfl, by omega, by omega, r _ H2 e2 ⟨fun i H3 _ hi => ?_, fun H3 _ => ?_, fun i H3 x H4 _ hi y => ?_⟩⟩
  · rw [List.length_map, List.length_range] at hi
    exact (walk_range (lo := 0) (n := (n : Int).toNat)).goes i H3 (by omega) trivial
  · rw [List.length_map, List.length_range]
    exact (walk_range (lo := 0) (n := (n : Int).toNat)).stops H3 trivial
  · rw [List.length_map, List.length_range] at hi
    obtain ⟨rfl, rfl⟩ := (walk_range (lo := 0) (n := (n : Int).toNat)).yields i H3 x H4 (by omega) trivial y
    refine ⟨Ex.refl _, .int (i : Int), by simp [hi], ?_⟩
    show Dq K H4 (V.int (0 + (i : Int))) _
    rw [Int.zero_add]
    exact .int _
def zipD (xs ys : List PyData) : List PyData := List.zipWith (fun x y => .tuple [x, y]) xs ys
theorem we_zip {va vb : V} {tb : TE} {xs ys : List PyData} (ha : Ev ta σ H va) (hb : Ev tb σ H vb) (hda : Dq K H va (.list xs)) (hdb : Dq K H vb (.list ys)) : WE K (iZip K (tCons ta (tCons tb tNil))) σ H (zipD xs ys) := fun H1 e R r =>
  ha H1 e _ fun H2 e2 => hb H2 (e.trans e2) _ fun H3 e3 => by
    obtain ⟨a, us, rfl, ha1, hu⟩ := hda.lst_of
    obtain ⟨b, ws, rfl, hb1, hw⟩ := hdb.lst_of
    have e4 := (e.trans e2).trans e3
    have hl := hu.len
    have hl2 := hw.len
    have hz : (zipD xs ys).length = min us.length ws.length := by
      unfold zipD
      rw [List.length_zipWith, hl, hl2]
    refine ⟨a, b, us, ws, rfl, SqL.of (e4 _ _ ha1), SqL.of (e4 _ _ hb1), r _ H3 (e2.trans e3) ⟨fun i H5 e5 hi => ?_, fun H5 e5 => ?_, fun i H5 x H6 e5 hi y => ?_⟩⟩
    · exact (walk_zip (K := K) (a := a) (b := b) (xs := us) (ys := ws) hz).goes i H5 hi ⟨SqL.of (e5 _ _ ha1), SqL.of (e5 _ _ hb1)⟩
    · exact (walk_zip (K := K) (a := a) (b := b) (xs := us) (ys := ws) hz).stops H5 ⟨SqL.of (e5 _ _ ha1), SqL.of (e5 _ _ hb1)⟩
    · obtain ⟨T, p, q, rfl, hT, rfl, hp, hq⟩ := (walk_zip (K := K) (a := a) (b := b) (xs := us) (ys := ws) hz).yields i H5 x H6 hi ⟨SqL.of (e5 _ _ ha1), SqL.of (e5 _ _ hb1)⟩ y
      obtain ⟨d1, h1, h2⟩ := hu.get hp
      obtain ⟨d2, h3, h4⟩ := hw.get hq
      have e6 := Evl.Ex.new (o := .tup [p, q]) hT
      refine ⟨e6, .tuple [d1, d2], ?_, .tup (SqT.of upd_same) (.cons (h2.mono (e5.trans e6)) (.cons (h4.mono (e5.trans e6)) .nil))⟩
      unfold zipD
      rw [List.getElem?_zipWith, h1, h3]
def Scal : PyData → Bool
  | .int _ => true
  | .bool _ => true
  | _ => false
theorem Dq.scal {v : V} {r : PyData} (h : Dq K H v r) (s : Scal r = true) (H2 : Hp) : Dq K H2 v r := by
  cases h with
  | int i => exact .int i
  | bl b => exact .bl b
  | non => cases s
  | lst _ _ => cases s
  | tup _ _ => cases s
theorem zipD_map {α β : Type} (c1 : α → PyData) (c2 : β → PyData) : ∀ (xs : List α) (ys : List β), zipD (xs.map c1) (ys.map c2) = (xs.zip ys).map fun q => .tuple [c1 q.1, c2 q.2]
  | [], _ => by simp [zipD]
  | _ :: _, [] => by simp [zipD]
  | x :: xs, y :: ys => by
    have ih := zipD_map c1 c2 xs ys
    unfold zipD at ih ⊢
    rw [List.map_cons, List.map_cons, List.zipWith_cons_cons, ih]
    rfl
theorem we_zipM {α β : Type} {va vb : V} {tb : TE} {xs : List α} {ys : List β} {c1 : α → PyData} {c2 : β → PyData} (ha : Ev ta σ H va) (hb : Ev tb σ H vb) (hda : Dq K H va (.list (xs.map c1))) (hdb : Dq K H vb (.list (ys.map c2))) :
    WE K (iZip K (tCons ta (tCons tb tNil))) σ H ((xs.zip ys).map fun q => .tuple [c1 q.1, c2 q.2]) := zipD_map c1 c2 xs ys ▸ we_zip ha hb hda hdb
/-- what a turn of a comprehension asks of an item: slots behind the target, the test, the item's value -/
def Turn (K : PySem.W.Frag) (g : TG) (t : TT) (te : TE) (vs : List Nat) (σ : L2.St) (H : Hp) (x : V) (o : Option PyData) : Prop :=
  ∃ σ', (∀ Q : L2.St → Hp → Prop, Q σ' H → g x (wipe σ vs) H Q) ∧ wipe σ' vs = wipe σ vs ∧ ET K t σ' H o.isSome ∧ ∀ r, o = some r → Scal r = true ∧ ED K te σ' H r
theorem fm_more {α : Type} {l : List α} {f : α → Option PyData} {i : Nat} {d : α} (h : l[i]? = some d) : (l.take (i + 1)).filterMap f = (l.take i).filterMap f ++ (f d).toList := by
  rw [List.take_succ, h, List.filterMap_append]
  cases e : f d with
  | none => simp [e]
  | some r => simp [e]
theorem map_at {α β : Type} {l : List α} {c : α → β} {i : Nat} {d : β} (h : (l.map c)[i]? = some d) : ∃ a, l[i]? = some a ∧ d = c a := by
  rw [List.getElem?_map] at h
  cases e : l[i]? with
  | none => rw [e] at h; cases h
  | some a => rw [e] at h; exact ⟨a, rfl, (Option.some.inj h).symm⟩
/-- [e for .. in .. if t], e a number or a truth value -/
theorem ed_lc {α : Type} {vs : List Nat} {l : List α} {c : α → PyData} (f : α → Option PyData) (h : WD K wi σ H (l.map c)) (hz : l.length ≤ 100000)
    (hs : ∀ d ∈ l, ∀ x H1, Ex H H1 → Dq K H1 x (c d) → Turn K g t te vs σ H1 x (f d)) : ED K (tLc wi g t te vs) σ H (.list (l.filterMap f)) := fun H0 e0 Q q =>
  h H0 e0 _ fun J H1 e1 w => fun D hD => by
    have hl : ∀ i, ((l.take i).filterMap f).length ≤ l.length := fun i => Nat.le_trans (List.length_filterMap_le ..) (by rw [List.length_take]; omega)
    refine lc_it (n := (l.map c).length) (G := fun H => Ex H1 H) (Y := fun i H x H' => Ex H H' ∧ ∃ d, (l.map c)[i]? = some d ∧ Dq K H' x d) ⟨fun i H3 hi e => w.goes i H3 e hi, fun H3 e => w.stops H3 e, fun i H3 x H4 hi e y => w.yields i H3 x H4 e hi y⟩
      (fun i H' => Ex H1 H' ∧ ∃ acc, H' D = some (.lst acc) ∧ ∀ H2, DqAll K H2 acc ((l.take i).filterMap f)) ⟨Evl.Ex.new hD, [], upd_same, fun _ => by rw [List.take_zero]; exact .nil⟩ (fun i H' _ p => p.1) ?_ ?_
    · rintro i x H3 H4 hi ⟨e3, acc, hacc, hd⟩ ⟨e4, d', hdi', hx⟩
      obtain ⟨d, hdi, rfl⟩ := map_at hdi'
      have e5 := e3.trans e4
      obtain ⟨σ', hg, hw, ht, he⟩ := hs d (List.mem_of_getElem? hdi) x H4 ((e0.trans e1).trans e5) hx
      refine hg _ ⟨hw, evt_go ht fun H5 e6 => ?_⟩
      have hm := fm_more (f := f) hdi
      cases ef : f d with
      | none =>
        refine (if_neg (by simp)).mpr ⟨e5.trans e6, acc, (e4.trans e6) _ _ hacc, fun H2 => ?_⟩
        rw [hm, ef]
        simpa using hd H2
      | some r =>
        refine (if_pos (by simp)).mpr ?_
        obtain ⟨hr, he⟩ := he r ef
        refine (he.mono e6).go fun y H6 e7 hy => ?_
        have e8 := (e4.trans e6).trans e7
        refine ⟨acc, e8 _ _ hacc, ?_, Evl.Ex.mut ((e5.trans e6).trans e7) hD, acc ++ [y], upd_same, fun H2 => ?_⟩
        · rw [(hd H4).len]
          exact Nat.lt_of_le_of_lt (Nat.le_trans (hl i) hz) (by decide)
        · rw [hm, ef]
          exact (hd H2).append (.cons (hy.scal hr H2) .nil)
    · rintro H' ⟨e, acc, hacc, hd⟩
      rw [List.length_map, List.take_length] at hd
      exact q _ H' (e1.trans e) (.lst hacc (hd H'))
/-- .. without a test -/
theorem ed_lcM {α : Type} {vs : List Nat} {l : List α} {c : α → PyData} (f : α → PyData) (h : WD K wi σ H (l.map c)) (hz : l.length ≤ 100000)
    (hs : ∀ d ∈ l, ∀ x H1, Ex H H1 → Dq K H1 x (c d) → ∃ σ', (∀ Q : L2.St → Hp → Prop, Q σ' H1 → g x (wipe σ vs) H1 Q) ∧ wipe σ' vs = wipe σ vs ∧ Scal (f d) = true ∧ ED K te σ' H1 (f d)) : ED K (tLc wi g tYes te vs) σ H (.list (l.map f)) := by
  have e : l.map f = l.filterMap fun d => some (f d) := by rw [List.filterMap_eq_map']
  rw [e]
  refine ed_lc _ h hz fun d hd x H1 e1 hx => ?_
  obtain ⟨σ', h1, h2, h3, h4⟩ := hs d hd x H1 e1 hx
  exact ⟨σ', h1, h2, et_yes, fun r hr => by cases hr; exact ⟨h3, h4⟩⟩
theorem flt_more {α : Type} {l : List α} {f : α → Bool} {i : Nat} {d : α} (h : l[i]? = some d) : (l.take (i + 1)).filter f = (l.take i).filter f ++ (if f d = true then [d] else []) := by
  rw [List.take_succ, h, List.filter_append]
  cases e : f d <;> simp [e]
/-- [x for x in xs if t] -/
theorem ed_lcI {α : Type} {l : List α} {c : α → PyData} {vs : List Nat} {j : Nat} (f : α → Bool) (h : ED K tl σ H (.list (l.map c))) (hz : l.length ≤ 100000) (hj : ∀ x, ((wipe σ vs).set j (some x))[j]? = some (some x)) (hw : ∀ x, wipe ((wipe σ vs).set j (some x)) vs = wipe σ vs)
    (hs : ∀ d ∈ l, ∀ x H1, Ex H H1 → Dq K H1 x (c d) → ET K t ((wipe σ vs).set j (some x)) H1 (f d)) : ED K (tLc (iList K tl) (gName j) t (tVar j) vs) σ H (.list ((l.filter f).map c)) := fun H0 e0 Q q =>
  h H0 e0 _ fun v H1 e1 hv => by
    obtain ⟨a, xs, rfl, ha, hx⟩ := hv.lst_of
    have hlen := hx.len
    rw [List.length_map] at hlen
    refine ⟨a, rfl, ⟨xs, SqL.of ha⟩, fun D hD => ?_⟩
    have hl : ∀ i, ((l.take i).filter f).length ≤ l.length := fun i => Nat.le_trans (List.length_filter_le ..) (by rw [List.length_take]; omega)
    refine lc_it (walk_list (xs := xs))
      (fun i H' => Ex H1 H' ∧ ∃ acc, H' D = some (.lst acc) ∧ DqAll K H1 acc (((l.take i).filter f).map c)) ⟨Evl.Ex.new hD, [], upd_same, by rw [List.take_zero]; exact .nil⟩ (fun i H' _ p => SqL.of (p.1 _ _ ha)) ?_ ?_
    · rintro i x H3 H4 hi ⟨e3, acc, hacc, hd⟩ ⟨rfl, hxi⟩
      obtain ⟨d', hdi', hxd⟩ := hx.get hxi
      obtain ⟨d, hdi, rfl⟩ := map_at hdi'
      refine ⟨hw x, evt_go (hs d (List.mem_of_getElem? hdi) x H4 ((e0.trans e1).trans e3) (hxd.mono e3)) fun H5 e6 => ?_⟩
      have hm := flt_more (f := f) hdi
      cases ef : f d with
      | false =>
        refine (if_neg Bool.false_ne_true).mpr ⟨e3.trans e6, acc, e6 _ _ hacc, ?_⟩
        rw [hm, ef]
        simpa using hd
      | true =>
        refine (if_pos rfl).mpr ⟨x, hj x, acc, e6 _ _ hacc, ?_, Evl.Ex.mut (e3.trans e6) hD, acc ++ [x], upd_same, ?_⟩
        · rw [hd.len, List.length_map]
          exact Nat.lt_of_le_of_lt (Nat.le_trans (hl i) hz) (by decide)
        · rw [hm, ef, List.map_append]
          exact hd.append (.cons hxd .nil)
    · rintro H' ⟨e, acc, hacc, hd⟩
      rw [hlen, List.take_length] at hd
      exact q _ H' (e1.trans e) (.lst hacc (hd.mono e))
/-- a for: Pv by the turn, the slots, the heap -/
theorem s_for {J : It} {tb : TS} {D : Ends} (w : WalkD K J H items) (Pv : Nat → L2.St → Hp → Prop) (h0 : Pv 0 σ H') (hG : ∀ i σ' H3, Pv i σ' H3 → Ex H H3)
    (hs : ∀ i d x σ' H3 H4, items[i]? = some d → Pv i σ' H3 → Ex H3 H4 → Dq K H4 x d → g x σ' H4 fun σ2 H2 => tb { D with nx := Pv (i + 1), ct := Pv (i + 1), bk := D.nx } σ2 H2) (hd : ∀ σ' H3, Pv items.length σ' H3 → D.nx σ' H3) :
    ∃ W : Nat → Nat → L2.St → Hp → Prop, (∃ m, W 0 m σ H') ∧ ∀ i m σ H, W i m σ H →
      (J.stop i H ∧ D.nx σ H) ∨ (J.go i H ∧ ∃ N : L2.St → Hp → Prop, (∀ σ' H', N σ' H' → ∃ m', m' < m ∧ W (i + 1) m' σ' H') ∧ ∀ x H', J.yld i H x H' → g x σ H' fun σ2 H2 => tb { D with nx := N, ct := N, bk := D.nx } σ2 H2) :=
  for_it (n := items.length) (G := fun H3 => Ex H H3) (Y := fun i H x H' => Ex H H' ∧ ∃ d, items[i]? = some d ∧ Dq K H' x d) ⟨fun i H3 hi e => w.goes i H3 e hi, fun H3 e => w.stops H3 e, fun i H3 x H4 hi e y => w.yields i H3 x H4 e hi y⟩
    Pv h0 (fun i σ' H3 _ p => hG i σ' H3 p) (fun i x σ' H3 H4 _ p ⟨e, d, hdi, hx⟩ => hs i d x σ' H3 H4 hdi p e hx) hd
/-! statements, from a base heap H0 -/
variable {H0 : Hp} {D : Ends} {tu tz : TS} {d : PyData} {tas : TA}
theorem b_ret (e : Ex H0 H) (h : ED K te σ H0 d) (q : ∀ v H1, Ex H0 H1 → Dq K H1 v d → D.rt v H1) : tRet te D σ H := h H e _ fun v H1 e1 hv => q v H1 (e.trans e1) hv
theorem b_set {i : Nat} (e : Ex H0 H) (h : ED K te σ H0 d) (q : ∀ v H1, Ex H0 H1 → Dq K H1 v d → tz D (σ.set i (some v)) H1) : tSeq (tAsg te (gName i)) tz D σ H := h H e _ fun v H1 e1 hv => q v H1 (e.trans e1) hv
theorem b_set1 {i : Nat} (e : Ex H0 H) (h : ED K te σ H0 d) (q : ∀ v H1, Ex H0 H1 → Dq K H1 v d → D.nx (σ.set i (some v)) H1) : tAsg te (gName i) D σ H := h H e _ fun v H1 e1 hv => q v H1 (e.trans e1) hv
theorem b_when {b : Bool} (e : Ex H0 H) (h : ET K t σ H0 b) (h1 : b = true → ∀ H1, Ex H0 H1 → tu { D with nx := tz D } σ H1) (h2 : b = false → ∀ H1, Ex H0 H1 → tz D σ H1) : tSeq (tIfS t tu tNext) tz D σ H :=
  h H e _ fun H1 e1 => by
    cases b with
    | true => exact (if_pos rfl).mpr (h1 rfl H1 (e.trans e1))
    | false => exact (if_neg Bool.false_ne_true).mpr (h2 rfl H1 (e.trans e1))
theorem b_when1 {b : Bool} (e : Ex H0 H) (h : ET K t σ H0 b) (h1 : b = true → ∀ H1, Ex H0 H1 → tu D σ H1) (h2 : b = false → ∀ H1, Ex H0 H1 → D.nx σ H1) : tIfS t tu tNext D σ H :=
  h H e _ fun H1 e1 => by
    cases b with
    | true => exact (if_pos rfl).mpr (h1 rfl H1 (e.trans e1))
    | false => exact (if_neg Bool.false_ne_true).mpr (h2 rfl H1 (e.trans e1))
theorem b_par {i j : Nat} {d1 d2 : PyData} (e : Ex H0 H) (h : EDA K tas σ H0 [d1, d2]) (q : ∀ v w H1, Ex H0 H1 → Dq K H1 v d1 → Dq K H1 w d2 → tz D ((σ.set i (some v)).set j (some w)) H1) : tSeq (tPar i j tas) tz D σ H :=
  h H e _ fun vs H1 e1 hv => by
    obtain ⟨x, y, rfl, hx, hy⟩ := hv.two
    exact ⟨x, y, rfl, q x y H1 (e.trans e1) hx hy⟩
theorem b_par1 {i j : Nat} {d1 d2 : PyData} (e : Ex H0 H) (h : EDA K tas σ H0 [d1, d2]) (q : ∀ v w H1, Ex H0 H1 → Dq K H1 v d1 → Dq K H1 w d2 → D.nx ((σ.set i (some v)).set j (some w)) H1) : tPar i j tas D σ H :=
  h H e _ fun vs H1 e1 hv => by
    obtain ⟨x, y, rfl, hx, hy⟩ := hv.two
    exact ⟨x, y, rfl, q x y H1 (e.trans e1) hx hy⟩
/-- x, y = e, e a tuple -/
theorem b_unp {i j : Nat} {d1 d2 : PyData} (e : Ex H0 H) (h : ED K te σ H0 (.tuple [d1, d2])) (q : ∀ v w H1, Ex H0 H1 → Dq K H1 v d1 → Dq K H1 w d2 → tz D ((σ.set i (some v)).set j (some w)) H1) : tSeq (tAsg te (gTup K 2 (gCons (gName i) (gCons (gName j) gNil)))) tz D σ H :=
  h H e _ fun v H1 e1 hv => by
    obtain ⟨a, xs, rfl, ha, hx⟩ := hv.tup_of
    obtain ⟨x, y, rfl, hx, hy⟩ := hx.two
    exact ⟨a, [x, y], rfl, ha, rfl, x, [y], rfl, y, [], rfl, rfl, q x y H1 (e.trans e1) hx hy⟩
/-- the target x, y of a pair -/
theorem g_pair {i j : Nat} {d1 d2 : PyData} {v : V} (hv : Dq K H v (.tuple [d1, d2])) : ∃ x y, Dq K H x d1 ∧ Dq K H y d2 ∧ ∀ (σ0 : L2.St) (Q : L2.St → Hp → Prop), Q ((σ0.set i (some x)).set j (some y)) H → gTup K 2 (gCons (gName i) (gCons (gName j) gNil)) v σ0 H Q := by
  obtain ⟨a, xs, rfl, ha, hx⟩ := hv.tup_of
  obtain ⟨x, y, rfl, hx, hy⟩ := hx.two
  exact ⟨x, y, hx, hy, fun σ0 Q q => ⟨a, [x, y], rfl, ha, rfl, x, [y], rfl, y, [], rfl, rfl, q⟩⟩
end
end Sb
/-! ### D. the program's defs, what the top has written of them, calls -/
namespace Sb
open PySem PySem.Spec PyProof.Rows L2
open Evl (Ex Ev EvT)
def top (i : Nat) : Stmt := PySem.Challenge.pw_standblocks_s01_answers.main.body.getD i (.Pass ⟨0, 0, 0, 0⟩)
abbrev s_f_pair_of : Stmt := top 41
abbrev s_f_swapped : Stmt := top 42
abbrev s_f_with_item : Stmt := top 43
abbrev s_f_is_allocation : Stmt := top 47
abbrev s_f_respects : Stmt := top 48
abbrev s_f_are_rivals : Stmt := top 49
abbrev s_f_is_separated : Stmt := top 50
abbrev s_f_is_valid : Stmt := top 51
abbrev s_f_seats_with : Stmt := top 52
abbrev s_f_sold : Stmt := top 53
abbrev s_f_combined : Stmt := top 54
abbrev s_f_join : Stmt := top 55
abbrev s_f_meet : Stmt := top 56
abbrev s_f_with_one_more : Stmt := top 59
abbrev s_f_valid_allocations : Stmt := top 60
abbrev s_f_best_allocation : Stmt := top 61
abbrev s_f_most_away : Stmt := top 62
abbrev s_f_add_block : Stmt := top 64
abbrev s_f_remove_last_block : Stmt := top 65
abbrev s_f_set_seats : Stmt := top 66
abbrev s_f_assign : Stmt := top 67
abbrev s_f_connect : Stmt := top 68
abbrev s_f_disconnect : Stmt := top 69
abbrev s_f_swap_teams : Stmt := top 70
abbrev s_f_fixed : Stmt := top 71
abbrev s_f_fix_best : Stmt := top 72
abbrev s_f_edit_answer : Stmt := top 74
abbrev s_f_seats_or_refusal : Stmt := top 76
abbrev s_f_list_blocks : Stmt := top 77
abbrev s_f_neighbors : Stmt := top 78
abbrev s_f_best_with : Stmt := top 79
abbrev s_f_tell_best_allocation : Stmt := top 80
abbrev s_f_best_with_away : Stmt := top 81
abbrev s_f_empty_seats : Stmt := top 82
abbrev s_f_max_away : Stmt := top 83
abbrev s_f_tell_is_valid : Stmt := top 84
abbrev s_f_sold_seats : Stmt := top 85
abbrev s_f_are_allocations : Stmt := top 86
abbrev s_f_tell_join : Stmt := top 87
abbrev s_f_tell_meet : Stmt := top 88
abbrev s_f_sold_with_assignment : Stmt := top 89
abbrev s_f_sold_if_assigned : Stmt := top 90
abbrev s_f_sold_if_closed : Stmt := top 91
abbrev s_f_count_valid : Stmt := top 92
abbrev s_f_get_state : Stmt := top 93
abbrev s_f_query_answer : Stmt := top 95
abbrev s_f_place_of_lists : Stmt := top 99
abbrev s_f_numbers_at : Stmt := top 100
abbrev s_f_lists_at : Stmt := top 101
abbrev s_f_place_after : Stmt := top 102
abbrev s_f_answer_at : Stmt := top 104
abbrev s_f_answers : Stmt := top 105
abbrev s_m_init : Stmt := inClass (top 44) 0
abbrev s_m_block_count : Stmt := inClass (top 44) 1
abbrev s_m_has_block : Stmt := inClass (top 44) 2
abbrev s_m_are_adjacent : Stmt := inClass (top 44) 3
abbrev s_m_add_block : Stmt := inClass (top 44) 4
abbrev s_m_remove_last_block : Stmt := inClass (top 44) 5
abbrev s_m_use_seats : Stmt := inClass (top 44) 6
abbrev s_m_use_assignments : Stmt := inClass (top 44) 7
abbrev s_m_connect : Stmt := inClass (top 44) 8
abbrev s_m_disconnect : Stmt := inClass (top 44) 9
abbrev s_m_swap_teams : Stmt := inClass (top 44) 10
structure Df (K : PySem.W.Frag) (mg : Str → Option Value) (x : Str) (st : Stmt) : Prop where
  g : mg x = some (.ref (He.ga K x))
  f : ∃ fd, Fun K x x st (He.ga K x) fd
structure Dm (K : PySem.W.Frag) (m qual : Str) (st : Stmt) : Prop where
  mt : Meth K (He.ga K "Plan") m (He.ma K (He.ga K "Plan") m)
  f : ∃ fd, Fun K m qual st (He.ma K (He.ga K "Plan") m) fd
/-- the def x keeps its promise -/
def OkF (P : Program) (w : World) (K : PySem.W.Frag) (mg : Str → Option Value) (base : Heap) (k : Nat) (x : Str) (ps : List Str) (sp : Sp) : Prop :=
  ∃ fd, FnOk P w K mg base CX0 k (He.ga K x) fd ps sp ∧ Binds K fd ps [] ∧ mg x = some (.ref (He.ga K x)) ∧ PySem.W.keepIn K (.ref (He.ga K x)) = true
def OkM (P : Program) (w : World) (K : PySem.W.Frag) (mg : Str → Option Value) (base : Heap) (k : Nat) (m : Str) (ps : List Str) (sp : Sp) : Prop :=
  ∃ fd, FnOk P w K mg base CX0 k (He.ma K (He.ga K "Plan") m) fd ps sp ∧ Binds K fd ps [] ∧ Meth K (He.ga K "Plan") m (He.ma K (He.ga K "Plan") m)
section
variable {P : Program} {w : World} {K : PySem.W.Frag} {mg : Str → Option Value} {base : Heap}
theorem okF {x : Str} {st : Stmt} {N ps : List Str} {k : Nat} {sp : Sp} (D : Df K mg x st) (S : FnScope N ps (defScope st)) (len : ∀ vs H Q E, sp vs H Q E → vs.length = ps.length)
    (bind : ∀ (kV doc pm : Value) (an : Option Addr) (cdv ct : Value) (us : List Value), us.length = ps.length → bindArgs (PySem.W.fnOf x x (defArgs st) (defBody st) (defScope st) .none kV doc pm an cdv ct) ⟨us, []⟩ = pure (ps.zip us))
    (hbody : ∀ (f : Addr) (cdv : Value) (A : Around) (outer : List Env) (s : Shared) (H : Hp) (vs : List V) (Q : VK) (E : XK), Room k (A.deeper (envOfC x (defScope st) s.heap.objs.size f cdv)) → sp vs H Q E →
      ∃ t, PSs (cxOf CX0 P w K mg base N x (defScope st) f cdv A outer s H E).nox (defBody st) t ∧ t { nx := fun _ H' => Q .non H', rt := Q } (start N vs) H) : OkF P w K mg base (k + 1) x ps sp := by
  obtain ⟨fd, F⟩ := D.f
  exact ⟨fd, F.ok S len (fun cdv A outer s H vs Q E hr h => hbody _ cdv A outer s H vs Q E hr h), F.binds bind, D.g, F.kp⟩
theorem okM {m qual : Str} {st : Stmt} {N ps : List Str} {k : Nat} {sp : Sp} (D : Dm K m qual st) (S : FnScope N ps (defScope st)) (len : ∀ vs H Q E, sp vs H Q E → vs.length = ps.length)
    (bind : ∀ (kV doc pm : Value) (an : Option Addr) (cdv ct : Value) (us : List Value), us.length = ps.length → bindArgs (PySem.W.fnOf m qual (defArgs st) (defBody st) (defScope st) .none kV doc pm an cdv ct) ⟨us, []⟩ = pure (ps.zip us))
    (hbody : ∀ (f : Addr) (cdv : Value) (A : Around) (outer : List Env) (s : Shared) (H : Hp) (vs : List V) (Q : VK) (E : XK), Room k (A.deeper (envOfC qual (defScope st) s.heap.objs.size f cdv)) → sp vs H Q E →
      ∃ t, PSs (cxOf CX0 P w K mg base N qual (defScope st) f cdv A outer s H E).nox (defBody st) t ∧ t { nx := fun _ H' => Q .non H', rt := Q } (start N vs) H) : OkM P w K mg base (k + 1) m ps sp := by
  obtain ⟨fd, F⟩ := D.f
  exact ⟨fd, F.ok S len (fun cdv A outer s H vs Q E hr h => hbody _ cdv A outer s H vs Q E hr h), F.binds bind, D.mt⟩
/-- a def that only reads -/
theorem okP {x : Str} {st : Stmt} {N ps : List Str} {k : Nat} {R : List PyData → PyData → Prop} (D : Df K mg x st) (S : FnScope N ps (defScope st)) (len : ∀ ds d, R ds d → ds.length = ps.length)
    (bind : ∀ (kV doc pm : Value) (an : Option Addr) (cdv ct : Value) (us : List Value), us.length = ps.length → bindArgs (PySem.W.fnOf x x (defArgs st) (defBody st) (defScope st) .none kV doc pm an cdv ct) ⟨us, []⟩ = pure (ps.zip us))
    (hbody : ∀ (f : Addr) (cdv : Value) (A : Around) (outer : List Env) (s : Shared) (H : Hp) (vs : List V) (ds : List PyData) (d : PyData) (E : XK), Room k (A.deeper (envOfC x (defScope st) s.heap.objs.size f cdv)) → DqAll K H vs ds → R ds d →
      ∃ t, PSs (cxOf CX0 P w K mg base N x (defScope st) f cdv A outer s H E).nox (defBody st) t ∧ ∀ Q : VK, (∀ v H', Ex H H' → Dq K H' v d → Q v H') → t { nx := fun _ H' => Q .non H', rt := Q } (start N vs) H) : OkF P w K mg base (k + 1) x ps (spP K R) := by
  refine okF D S (fun vs H Q E h => ?_) bind fun f cdv A outer s H vs Q E hr h => ?_
  · obtain ⟨ds, d, hd, hR, _⟩ := h
    rw [hd.len]
    exact len ds d hR
  · obtain ⟨ds, d, hd, hR, q⟩ := h
    obtain ⟨t, ht, hq⟩ := hbody f cdv A outer s H vs ds d E hr hd hR
    exact ⟨t, ht, hq Q q⟩
theorem hu65 {A : Around} {k : Nat} (hr : Room k A) : A.units + 65 < cLine := by have := hr.un; omega
end
section
variable {X : Cx} {k : Nat} {x m : Str} {ps : List Str} {sp : Sp} {p pos apos : Pos} {e o : Expr} {es : List Expr} {t : TA} {ta : TE}
theorem pe_callF (c : OkF X.prog X.w X.K X.mg X.base k x ps sp) (hr : Room k X.A) (hg : Gl X x) (ha : PA X (e :: es) t) (hdb : (x == ("__debug__" : Str)) = false := by decide)
    (he : starEach (e :: es) X.env = (false, eval e X.env) :: starEach es X.env := by rfl) (hpl : (backTo pos (starEach es X.env)).any (·.1) = false := by rfl) :
    PE X (.Call (.Name x p) (e :: es) [] pos) (tCall sp [] E0 t) := by
  obtain ⟨fd, F, b, hm, hk⟩ := c
  exact pe_call F hr hg hm hk b .nil pass0 ha hdb he hpl
theorem pe_methF {pl : Sem Bool} {K : PySem.W.Frag} (c : OkM X.prog X.w X.K X.mg X.base k m ps sp) (hc : Cls X.K (He.ga X.K "Plan")) (hr : Room k X.A) (he : PE X o ta) (ha : PA X (e :: es) t)
    (hst : starEach (e :: es) X.env = (false, eval e X.env) :: starEach es X.env := by rfl) (hpl : (backTo pos (starEach es X.env)).any (·.1) = false := by rfl)
    (ht : eval (.Call (.Attribute o m apos) (e :: es) [] pos) X.env = (do
      let ov ← eval o X.env
      standAt apos.atName
      let (f, first) ← holding [ov] (getMethod ov m pl)
      callWith pos f first (backTo pos (starEach (e :: es) X.env)) (backToKw pos (keywordEach [] X.env))) := by rfl) (hK : X.K = K := by rfl) :
    PE X (.Call (.Attribute o m apos) (e :: es) [] pos) (tMeth (He.ga K "Plan") m sp [] E0 ta t) := by
  subst hK
  obtain ⟨fd, F, b, hm⟩ := c
  exact pe_meth he hc hm F hr b .nil pass0 ha hst hpl ht
theorem pe_methF0 {pl : Sem Bool} (c : OkM X.prog X.w X.K X.mg X.base k m ps sp) (hc : Cls X.K (He.ga X.K "Plan")) (hr : Room k X.A) (he : PE X o ta)
    (ht : eval (.Call (.Attribute o m apos) [] [] pos) X.env = (do
      let ov ← eval o X.env
      standAt apos.atName
      let (f, first) ← holding [ov] (getMethod ov m pl)
      callWith pos f first (backTo pos (starEach [] X.env)) (backToKw pos (keywordEach [] X.env))) := by rfl) :
    PE X (.Call (.Attribute o m apos) [] [] pos) (tMeth (He.ga X.K "Plan") m sp [] E0 ta tNil) := by
  obtain ⟨fd, F, b, hm⟩ := c
  exact pe_meth0 he hc hm F hr b .nil pass0 ht
theorem pe_gi {i : Int} (hg : Gl X x) (h : ∃ t, X.mg x = some (.int i t)) (hd : (x == ("__debug__" : Str)) = false := by decide) : PE X (.Name x pos) (tC (.int i)) := by
  obtain ⟨t, h⟩ := h
  exact pe_glob hg h ⟨t, rfl⟩ hd
theorem pe_gr {a : Addr} (hg : Gl X x) (h : X.mg x = some (.ref a)) (hd : (x == ("__debug__" : Str)) = false := by decide) : PE X (.Name x pos) (tC (.ref a)) := pe_glob hg h rfl hd
end

/-! ### written tuples of numbers and tuples -/
mutual
def dqB (K : PySem.W.Frag) : Nat → Value → PyData → Bool
  | _, .int i _, .int j => decide (i = j)
  | n + 1, .ref a, .tuple ds => (match K.lookup a with
    | some o => decide (o.cls = .type "tuple") && (match o.data with
      | .seq its _ => decide (its.size ≤ 1000) && dqBs K n its.toList ds
      | _ => false)
    | none => false)
  | _, _, _ => false
def dqBs (K : PySem.W.Frag) : Nat → List Value → List PyData → Bool
  | _, [], [] => true
  | n, u :: us, d :: ds => dqB K n u d && dqBs K n us ds
  | _, _, _ => false
end
section
variable {K : PySem.W.Frag} {H : Hp}
mutual
theorem dqB_ok : ∀ (n : Nat) (u : Value) (d : PyData), dqB K n u d = true → ∃ v, RelV v u ∧ Dq K H v d
  | n, u, .int j, h => by
    cases u with
    | int i t =>
      have e : i = j := by unfold dqB at h; exact of_decide_eq_true h
      subst e
      exact ⟨.int i, ⟨t, rfl⟩, .int i⟩
    | _ => cases n <;> (unfold dqB at h; cases h)
  | 0, u, .tuple ds, h => by cases u <;> (unfold dqB at h; cases h)
  | n + 1, u, .tuple ds, h => by
    cases u with
    | ref a =>
      unfold dqB at h
      cases hl : K.lookup a with
      | none => rw [hl] at h; cases h
      | some o =>
        rw [hl] at h
        obtain ⟨oc, od, dat, sl⟩ := o
        cases dat with
        | seq its m =>
          dsimp only at h
          rw [Bool.and_eq_true, Bool.and_eq_true] at h
          obtain ⟨hc, hz, hs⟩ := h
          obtain ⟨vs, hv, hd⟩ := dqBs_ok n its.toList ds hs
          exact ⟨.ref a, rfl, .tup (.inr ⟨_, its, m, hl, of_decide_eq_true hc, rfl, sz_of (Nat.le_trans (of_decide_eq_true hz) (by decide)), hv⟩) hd⟩
        | _ => dsimp only at h; rw [Bool.and_false] at h; cases h
    | _ => unfold dqB at h; cases h
  | n, u, .none, h => by cases n <;> cases u <;> (unfold dqB at h; cases h)
  | n, u, .bool _, h => by cases n <;> cases u <;> (unfold dqB at h; cases h)
  | n, u, .str _, h => by cases n <;> cases u <;> (unfold dqB at h; cases h)
  | n, u, .list _, h => by cases n <;> cases u <;> (unfold dqB at h; cases h)
  | n, u, .dict _, h => by cases n <;> cases u <;> (unfold dqB at h; cases h)
theorem dqBs_ok : ∀ (n : Nat) (us : List Value) (ds : List PyData), dqBs K n us ds = true → ∃ vs, Vals vs us ∧ DqAll K H vs ds
  | n, [], [], _ => ⟨[], .nil, .nil⟩
  | n, u :: us, d :: ds, h => by
    unfold dqBs at h
    rw [Bool.and_eq_true] at h
    obtain ⟨v, h1, h2⟩ := dqB_ok n u d h.1
    obtain ⟨vs, h3, h4⟩ := dqBs_ok n us ds h.2
    exact ⟨v :: vs, .cons h1 h3, .cons h2 h4⟩
  | n, [], _ :: _, h => by unfold dqBs at h; cases h
  | n, _ :: _, [], h => by unfold dqBs at h; cases h
end
theorem dq_written {n : Nat} {a : Addr} {d : PyData} (h : dqB K n (.ref a) d = true) (H : Hp) : Dq K H (.ref a) d := by
  obtain ⟨v, r, hd⟩ := dqB_ok (H := H) n _ d h
  cases v with
  | ref b =>
    have e : Value.ref a = Value.ref b := r
    cases e
    exact hd
  | _ => first | (obtain ⟨t, r⟩ := r; cases r) | (have r' : Value.ref a = _ := r; cases r')
end

/-! ### written dicts: numbers to defs -/
def entB : List DictEntry → List (Int × Addr) → Bool
  | [], [] => true
  | e :: es, (i, a) :: r => (match e.key with
    | .int j _ => decide (j = i)
    | _ => false) && decide (e.hash = hashInt i) && (match e.val with
    | .ref b => decide (b = a)
    | _ => false) && entB es r
  | _, _ => false
def kdiB (K : PySem.W.Frag) (d : Addr) (kvs : List (Int × Addr)) : Bool := !(d == sysModules) && match K.lookup d with
  | some o => decide (o.cls = .type "dict") && o.dict.isNone && o.slots.isEmpty && (match o.data with
    | .dict es _ => entB es.toList kvs
    | _ => false)
  | none => false
structure KDI (K : PySem.W.Frag) (d : Addr) (kvs : List (Int × Addr)) : Prop where
  ok : kdiB K d kvs = true
theorem entB_ok : ∀ (es : List DictEntry) (kvs : List (Int × Addr)), entB es kvs = true → (∀ e ∈ es, ∃ i t, e.key = .int i t ∧ e.hash = hashInt i) ∧ ∀ k, (es.find? fun e => Value.isInt k e.key).map (·.val) = (kvs.lookup k).map Value.ref
  | [], [], _ => ⟨fun e h => absurd h (by simp), fun k => rfl⟩
  | [], _ :: _, h => by unfold entB at h; cases h
  | _ :: _, [], h => by unfold entB at h; cases h
  | ⟨eh, ek, ev⟩ :: es, (i, a) :: r, h => by
    unfold entB at h
    rw [Bool.and_eq_true, Bool.and_eq_true, Bool.and_eq_true] at h
    obtain ⟨⟨⟨h1, h2⟩, h3⟩, h4⟩ := h
    obtain ⟨i1, i2⟩ := entB_ok es r h4
    cases ek with
    | int j t =>
      have e1 : j = i := of_decide_eq_true h1
      subst e1
      cases ev with
      | ref b =>
        have e3 : b = a := of_decide_eq_true h3
        subst e3
        refine ⟨fun e he => ?_, fun k => ?_⟩
        · rcases List.mem_cons.mp he with rfl | he
          · exact ⟨j, t, rfl, of_decide_eq_true h2⟩
          · exact i1 e he
        · rw [List.find?_cons, List.lookup_cons]
          by_cases hk : k = j
          · subst hk
            simp [Value.isInt]
          · have q1 : Value.isInt k (.int j t) = false := by simp [Value.isInt, Ne.symm hk]
            have q2 : (k == j) = false := beq_eq_false_iff_ne.mpr hk
            show (match Value.isInt k (Value.int j t) with | true => _ | false => _ : Option DictEntry).map (·.val) = _
            rw [q1, q2]
            exact i2 k
      | _ => cases h3
    | _ => cases h1
theorem KDI.map {K : PySem.W.Frag} {d : Addr} {kvs : List (Int × Addr)} (D : KDI K d kvs) {h : Heap} (X : K.In h) (prog : Program) (w : World) : (d == sysModules) = false ∧ h.MapOf (intKind prog w) d fun k => (kvs.lookup k).map Value.ref := by
  have c := D.ok
  unfold kdiB at c
  rw [Bool.and_eq_true] at c
  obtain ⟨c0, c⟩ := c
  refine ⟨by simpa using c0, ?_⟩
  cases hl : K.lookup d with
  | none => rw [hl] at c; cases c
  | some o =>
    rw [hl] at c
    obtain ⟨oc, od, dat, sl⟩ := o
    cases dat with
    | dict es n =>
      dsimp only at c
      rw [Bool.and_eq_true, Bool.and_eq_true, Bool.and_eq_true] at c
      obtain ⟨⟨⟨c1, c2⟩, c3⟩, c4⟩ := c
      obtain ⟨e1, e2⟩ := entB_ok _ _ c4
      have q1 : oc = .type "dict" := of_decide_eq_true c1
      have q2 : od = none := by simpa using c2
      have q3 : sl = #[] := by simpa using c3
      subst q1 q2 q3
      refine ⟨_, es, n, X _ _ hl, ⟨rfl, rfl, rfl⟩, rfl, fun e he => ?_, fun k => ?_⟩
      · obtain ⟨i, t, h1, h2⟩ := e1 e (Array.mem_toList_iff.mpr he)
        exact ⟨i, by rw [h1]; simp [intKind, Value.isInt], h2⟩
      · show findBy (intKind prog w).is es k = (kvs.lookup k).map Value.ref
        rw [← e2 k]
        unfold findBy
        rw [← Array.find?_toList]
        rfl
    | _ => dsimp only at c; rw [Bool.and_false] at c; cases c
section
variable {X : Cx} {d : Addr} {kvs : List (Int × Addr)}
theorem op_in_di (D : KDI X.K d kvs) : OpR X (compareOp .In) (fun x y H Q => ∃ z, x = .int z ∧ y = .ref d ∧ Q (.bl (kvs.lookup z).isSome) H) := by
  intro pins s σ H x y v u Q I rx ry h
  obtain ⟨z, rfl, rfl, q⟩ := h
  obtain ⟨t, rfl⟩ := rx
  cases ry
  obtain ⟨low, m⟩ := D.map I.kIn X.prog X.w
  refine wpAny_in_of (PySem.intKind_is X.prog X.w z t) low m ?_
  rw [Option.isSome_map]
  exact ⟨.bl _, H, I.tok _, rfl, q⟩
theorem ix_di (D : KDI X.K d kvs) : IxR X (fun x y H Q => ∃ z a, x = .ref d ∧ y = .int z ∧ kvs.lookup z = some a ∧ Q (.ref a) H) := by
  intro value slice pins s σ H x y v u Q I rx ry h hs
  obtain ⟨z, a, rfl, rfl, e, q⟩ := h
  obtain rfl : v = Value.ref d := rx
  obtain ⟨t, rfl⟩ := ry
  obtain ⟨low, m⟩ := D.map I.kIn X.prog X.w
  exact tail_any m.typeIs slot_dict_getitem.lookup (wpAny_getItem_of (PySem.intKind_is X.prog X.w z t) m (by rw [e]; rfl) ⟨.ref a, H, I.tok _, rfl, q⟩) hs
end

/-! ### a local name that is one of several defs -/
def tCallR (i : Nat) (S : Addr → Sp → Prop) (t : TA) : TE := fun σ H Q => ∃ f sp, σ[i]? = some (some (.ref f)) ∧ S f sp ∧ t σ H fun vs H1 => sp vs H1 Q (fun _ _ _ => False)
section
variable {X : Cx} {k i : Nat} {x : Str} {p pos : Pos} {e : Expr} {es : List Expr} {t : TA}
theorem pe_callR {S : Addr → Sp → Prop} (A : ∀ f sp, S f sp → Held X.prog X.w X.K X.mg X.base k f sp) (hr : Room k X.A) (hN : X.N[i]? = some x) (hv : Vis X.env.scope x) (ha : PA X (e :: es) t)
    (hdb : (x == ("__debug__" : Str)) = false := by decide) (hcd : (x == ("__classdict__" : Str)) = false := by decide)
    (he : starEach (e :: es) X.env = (false, eval e X.env) :: starEach es X.env := by rfl) (hpl : (backTo pos (starEach es X.env)).any (·.1) = false := by rfl) : PE X (.Call (.Name x p) (e :: es) [] pos) (tCallR i S t) := by
  refine ⟨fun pins s σ H Q I h => ?_⟩
  obtain ⟨f, sp, hs, hS, ht⟩ := h
  obtain ⟨fd, ps, F, hk, hb⟩ := (A f sp hS).ex
  refine (pe_callL (i := i) (f := f) (sp := sp) (dvs := []) (E := fun _ _ _ => False) F hr hN hv hk hb .nil (fun _ _ _ _ _ _ _ z => z.elim) ha hdb hcd he hpl).run pins s σ H Q I ⟨hs, ?_⟩
  have e0 : (fun (vs : List V) (H1 : Hp) => sp (vs ++ []) H1 Q (fun _ _ _ => False)) = fun vs H1 => sp vs H1 Q (fun _ _ _ => False) := by
    funext vs H1
    rw [List.append_nil]
  show t σ H (fun vs H1 => sp (vs ++ []) H1 Q (fun _ _ _ => False))
  rw [e0]
  exact ht
end

/-! ### what the top has written -/
def usesD : PyData := .tuple [.tuple [.int (0), .int (1), .int (2)], .tuple [.int (1)], .tuple [.int (2)], .tuple [.int (0)]]
def numbersD : PyData := .tuple [.int (0), .int (1), .int (0), .int (2), .int (2), .int (2), .int (2), .int (0), .int (0), .int (1), .int (0), .int (0), .int (1), .int (0), .int (0), .int (0), .int (0), .int (0), .int (2), .int (1), .int (0), .int (0), .int (0)]
def listsD : PyData := .tuple [.int (0), .int (0), .int (0), .int (0), .int (0), .int (0), .int (0), .int (0), .int (0), .int (0), .int (0), .int (0), .int (0), .int (0), .int (1), .int (1), .int (2), .int (2), .int (0), .int (0), .int (0), .int (0), .int (0)]
structure Txt (K : PySem.W.Frag) (mg : Str → Option Value) : Prop where
  d_pair_of : Df K mg "pair_of" s_f_pair_of
  d_swapped : Df K mg "swapped" s_f_swapped
  d_with_item : Df K mg "with_item" s_f_with_item
  d_is_allocation : Df K mg "is_allocation" s_f_is_allocation
  d_respects : Df K mg "respects" s_f_respects
  d_are_rivals : Df K mg "are_rivals" s_f_are_rivals
  d_is_separated : Df K mg "is_separated" s_f_is_separated
  d_is_valid : Df K mg "is_valid" s_f_is_valid
  d_seats_with : Df K mg "seats_with" s_f_seats_with
  d_sold : Df K mg "sold" s_f_sold
  d_combined : Df K mg "combined" s_f_combined
  d_join : Df K mg "join" s_f_join
  d_meet : Df K mg "meet" s_f_meet
  d_with_one_more : Df K mg "with_one_more" s_f_with_one_more
  d_valid_allocations : Df K mg "valid_allocations" s_f_valid_allocations
  d_best_allocation : Df K mg "best_allocation" s_f_best_allocation
  d_most_away : Df K mg "most_away" s_f_most_away
  d_add_block : Df K mg "add_block" s_f_add_block
  d_remove_last_block : Df K mg "remove_last_block" s_f_remove_last_block
  d_set_seats : Df K mg "set_seats" s_f_set_seats
  d_assign : Df K mg "assign" s_f_assign
  d_connect : Df K mg "connect" s_f_connect
  d_disconnect : Df K mg "disconnect" s_f_disconnect
  d_swap_teams : Df K mg "swap_teams" s_f_swap_teams
  d_fixed : Df K mg "fixed" s_f_fixed
  d_fix_best : Df K mg "fix_best" s_f_fix_best
  d_edit_answer : Df K mg "edit_answer" s_f_edit_answer
  d_seats_or_refusal : Df K mg "seats_or_refusal" s_f_seats_or_refusal
  d_list_blocks : Df K mg "list_blocks" s_f_list_blocks
  d_neighbors : Df K mg "neighbors" s_f_neighbors
  d_best_with : Df K mg "best_with" s_f_best_with
  d_tell_best_allocation : Df K mg "tell_best_allocation" s_f_tell_best_allocation
  d_best_with_away : Df K mg "best_with_away" s_f_best_with_away
  d_empty_seats : Df K mg "empty_seats" s_f_empty_seats
  d_max_away : Df K mg "max_away" s_f_max_away
  d_tell_is_valid : Df K mg "tell_is_valid" s_f_tell_is_valid
  d_sold_seats : Df K mg "sold_seats" s_f_sold_seats
  d_are_allocations : Df K mg "are_allocations" s_f_are_allocations
  d_tell_join : Df K mg "tell_join" s_f_tell_join
  d_tell_meet : Df K mg "tell_meet" s_f_tell_meet
  d_sold_with_assignment : Df K mg "sold_with_assignment" s_f_sold_with_assignment
  d_sold_if_assigned : Df K mg "sold_if_assigned" s_f_sold_if_assigned
  d_sold_if_closed : Df K mg "sold_if_closed" s_f_sold_if_closed
  d_count_valid : Df K mg "count_valid" s_f_count_valid
  d_get_state : Df K mg "get_state" s_f_get_state
  d_query_answer : Df K mg "query_answer" s_f_query_answer
  d_place_of_lists : Df K mg "place_of_lists" s_f_place_of_lists
  d_numbers_at : Df K mg "numbers_at" s_f_numbers_at
  d_lists_at : Df K mg "lists_at" s_f_lists_at
  d_place_after : Df K mg "place_after" s_f_place_after
  d_answer_at : Df K mg "answer_at" s_f_answer_at
  d_answers : Df K mg "answers" s_f_answers
  d_m_init : Dm K "__init__" "Plan.__init__" s_m_init
  d_m_block_count : Dm K "block_count" "Plan.block_count" s_m_block_count
  d_m_has_block : Dm K "has_block" "Plan.has_block" s_m_has_block
  d_m_are_adjacent : Dm K "are_adjacent" "Plan.are_adjacent" s_m_are_adjacent
  d_m_add_block : Dm K "add_block" "Plan.add_block" s_m_add_block
  d_m_remove_last_block : Dm K "remove_last_block" "Plan.remove_last_block" s_m_remove_last_block
  d_m_use_seats : Dm K "use_seats" "Plan.use_seats" s_m_use_seats
  d_m_use_assignments : Dm K "use_assignments" "Plan.use_assignments" s_m_use_assignments
  d_m_connect : Dm K "connect" "Plan.connect" s_m_connect
  d_m_disconnect : Dm K "disconnect" "Plan.disconnect" s_m_disconnect
  d_m_swap_teams : Dm K "swap_teams" "Plan.swap_teams" s_m_swap_teams
  cls : Cls K (He.ga K "Plan")
  mkr : Mk K (He.ga K "Plan") (He.ma K (He.ga K "Plan") "__init__")
  gP : mg "Plan" = some (.ref (He.ga K "Plan"))
  n_seats : NoAttr K (He.ga K "Plan") "seats"
  n_assignments : NoAttr K (He.ga K "Plan") "assignments"
  n_pairs : NoAttr K (He.ga K "Plan") "pairs"
  i_CREATE : ∃ t, mg "CREATE" = some (.int (0) t)
  i_ADD_BLOCK : ∃ t, mg "ADD_BLOCK" = some (.int (1) t)
  i_REMOVE_LAST_BLOCK : ∃ t, mg "REMOVE_LAST_BLOCK" = some (.int (2) t)
  i_SET_SEATS : ∃ t, mg "SET_SEATS" = some (.int (3) t)
  i_ASSIGN : ∃ t, mg "ASSIGN" = some (.int (4) t)
  i_CONNECT : ∃ t, mg "CONNECT" = some (.int (5) t)
  i_DISCONNECT : ∃ t, mg "DISCONNECT" = some (.int (6) t)
  i_SWAP_TEAMS : ∃ t, mg "SWAP_TEAMS" = some (.int (7) t)
  i_LIST_BLOCKS : ∃ t, mg "LIST_BLOCKS" = some (.int (8) t)
  i_NEIGHBORS : ∃ t, mg "NEIGHBORS" = some (.int (9) t)
  i_BEST_ALLOCATION : ∃ t, mg "BEST_ALLOCATION" = some (.int (10) t)
  i_EMPTY_SEATS : ∃ t, mg "EMPTY_SEATS" = some (.int (11) t)
  i_BEST_WITH_AWAY : ∃ t, mg "BEST_WITH_AWAY" = some (.int (12) t)
  i_MAX_AWAY : ∃ t, mg "MAX_AWAY" = some (.int (13) t)
  i_IS_VALID : ∃ t, mg "IS_VALID" = some (.int (14) t)
  i_SOLD_SEATS : ∃ t, mg "SOLD_SEATS" = some (.int (15) t)
  i_JOIN : ∃ t, mg "JOIN" = some (.int (16) t)
  i_MEET : ∃ t, mg "MEET" = some (.int (17) t)
  i_SOLD_IF_ASSIGNED : ∃ t, mg "SOLD_IF_ASSIGNED" = some (.int (18) t)
  i_SOLD_IF_CLOSED : ∃ t, mg "SOLD_IF_CLOSED" = some (.int (19) t)
  i_COUNT_VALID : ∃ t, mg "COUNT_VALID" = some (.int (20) t)
  i_FIX_BEST : ∃ t, mg "FIX_BEST" = some (.int (21) t)
  i_GET_STATE : ∃ t, mg "GET_STATE" = some (.int (22) t)
  i_MOST_SEATS : ∃ t, mg "MOST_SEATS" = some (.int (99) t)
  i_MOST_BLOCKS : ∃ t, mg "MOST_BLOCKS" = some (.int (6) t)
  i_EMPTY : ∃ t, mg "EMPTY" = some (.int (0) t)
  i_HOME : ∃ t, mg "HOME" = some (.int (1) t)
  i_AWAY : ∃ t, mg "AWAY" = some (.int (2) t)
  i_ANY_USE : ∃ t, mg "ANY_USE" = some (.int (0) t)
  i_HOME_ONLY : ∃ t, mg "HOME_ONLY" = some (.int (1) t)
  i_AWAY_ONLY : ∃ t, mg "AWAY_ONLY" = some (.int (2) t)
  i_CLOSED : ∃ t, mg "CLOSED" = some (.int (3) t)
  i_GREATEST_ASSIGNMENT : ∃ t, mg "GREATEST_ASSIGNMENT" = some (.int (3) t)
  i_NO_PLANNER : ∃ t, mg "NO_PLANNER" = some (.int (-11) t)
  i_NO_SUCH_BLOCK : ∃ t, mg "NO_SUCH_BLOCK" = some (.int (-2) t)
  i_NOTHING_THERE : ∃ t, mg "NOTHING_THERE" = some (.int (-6) t)
  i_ALREADY_ADJACENT : ∃ t, mg "ALREADY_ADJACENT" = some (.int (-17) t)
  i_BAD_ARGUMENT : ∃ t, mg "BAD_ARGUMENT" = some (.int (-22) t)
  i_ALL_FULL : ∃ t, mg "ALL_FULL" = some (.int (-28) t)
  i_NO_ALLOCATION : ∃ t, mg "NO_ALLOCATION" = some (.int (-33) t)
  i_NONE_FOUND : ∃ t, mg "NONE_FOUND" = some (.int (-1) t)
  r_USES : mg "USES" = some (.ref (He.ga K "USES"))
  r_EDITS : mg "EDITS" = some (.ref (He.ga K "EDITS"))
  r_QUERIES : mg "QUERIES" = some (.ref (He.ga K "QUERIES"))
  r_NUMBERS : mg "NUMBERS" = some (.ref (He.ga K "NUMBERS"))
  r_LISTS : mg "LISTS" = some (.ref (He.ga K "LISTS"))
  v_USES : dqB K 3 (.ref (He.ga K "USES")) usesD = true
  v_NUMBERS : dqB K 3 (.ref (He.ga K "NUMBERS")) numbersD = true
  v_LISTS : dqB K 3 (.ref (He.ga K "LISTS")) listsD = true
  d_EDITS : KDI K (He.ga K "EDITS") [(1, He.ga K "add_block"), (2, He.ga K "remove_last_block"), (3, He.ga K "set_seats"), (4, He.ga K "assign"), (5, He.ga K "connect"), (6, He.ga K "disconnect"), (7, He.ga K "swap_teams"), (21, He.ga K "fix_best")]
  d_QUERIES : KDI K (He.ga K "QUERIES") [(8, He.ga K "list_blocks"), (9, He.ga K "neighbors"), (10, He.ga K "tell_best_allocation"), (11, He.ga K "empty_seats"), (12, He.ga K "best_with_away"), (13, He.ga K "max_away"), (14, He.ga K "tell_is_valid"), (15, He.ga K "sold_seats"), (16, He.ga K "tell_join"), (17, He.ga K "tell_meet"), (18, He.ga K "sold_if_assigned"), (19, He.ga K "sold_if_closed"), (20, He.ga K "count_valid"), (22, He.ga K "get_state")]
  b_len : mg "len" = none
  b_min : mg "min" = none
  b_max : mg "max" = none
  b_all : mg "all" = none
  b_any : mg "any" = none
  b_sum : mg "sum" = none
  b_zip : mg "zip" = none
  b_list : mg "list" = none
  b_range : mg "range" = none
end Sb
/-! ### the end's lemmas -/
namespace Sb
open PySem PySem.Spec PyProof.Rows L2
section
variable {K : PySem.W.Frag} {h : Heap} {mg : Str → Option Value} {x m qual : Str} {st : Stmt} {f g : Addr}
theorem ga_eq (a : PySem.W.nsIn K mainGlobals x = some (some (.ref f))) : He.ga K x = f := by
  unfold He.ga
  rw [a]
theorem ma_eq (a : PySem.W.findIn K (.ref g) m = some (some (.ref f))) : He.ma K g m = f := by
  unfold He.ma
  rw [a]
theorem df_mk {oc : Value} {od an : Option Addr} {osl : Array (Option Value)} {kV doc pm cdv ct : Value} (X : K.In h) (G : h.Ns mainGlobals mg) (a : PySem.W.nsIn K mainGlobals x = some (some (.ref f)))
    (l : K.lookup f = some ⟨oc, od, .func (PySem.W.fnOf x x (defArgs st) (defBody st) (defScope st) .none kV doc pm an cdv ct), osl⟩) (c : PySem.W.codeIn K cdv x = true) (k : PySem.W.keepIn K (.ref f) = true) : Df K mg x st := by
  have e := ga_eq a
  exact ⟨by rw [e]; exact PySem.W.mg_of X G a, _, by rw [e]; exact fun_mk l c k⟩
theorem dm_mk {oc : Value} {od an : Option Addr} {osl : Array (Option Value)} {kV doc pm cdv ct : Value} (e : He.ga K "Plan" = g) (a : PySem.W.findIn K (.ref g) m = some (some (.ref f))) (i : PySem.W.isFn K (.ref f) = true)
    (l : K.lookup f = some ⟨oc, od, .func (PySem.W.fnOf m qual (defArgs st) (defBody st) (defScope st) .none kV doc pm an cdv ct), osl⟩) (c : PySem.W.codeIn K cdv qual = true) (k : PySem.W.keepIn K (.ref f) = true) : Dm K m qual st := by
  have e2 := ma_eq a
  refine ⟨by rw [e, e2]; exact ⟨a, i, k⟩, PySem.W.fnOf m qual (defArgs st) (defBody st) (defScope st) .none kV doc pm an cdv ct, ?_⟩
  rw [e, e2]
  exact fun_mk l c k
theorem i_mk {i : Int} {t : Tok} (X : K.In h) (G : h.Ns mainGlobals mg) (a : PySem.W.nsIn K mainGlobals x = some (some (.int i t))) : ∃ t, mg x = some (.int i t) := ⟨t, PySem.W.mg_of X G a⟩
theorem r_mk (X : K.In h) (G : h.Ns mainGlobals mg) (a : PySem.W.nsIn K mainGlobals x = some (some (.ref f))) : mg x = some (.ref (He.ga K x)) := by
  rw [ga_eq a]
  exact PySem.W.mg_of X G a
theorem cls_mk (e : He.ga K "Plan" = g) (pg : PySem.W.plainGet K g Str.empty = true) (hd : PySem.W.hasDictIn K g = true) (po : PySem.W.plainOver K g = true) (sa : PySem.W.findIn K (.ref g) "__setattr__" = some (some (.builtin "object.__setattr__"))) : Cls K (He.ga K "Plan") := by
  rw [e]
  exact ⟨pg, hd, po, sa⟩
theorem mkr_mk (e : He.ga K "Plan" = g) (mk : PySem.W.makesIn K g = true) (a : PySem.W.findIn K (.ref g) "__init__" = some (some (.ref f))) (i : PySem.W.isFn K (.ref f) = true) (k : PySem.W.keepIn K (.ref g) = true) : Mk K (He.ga K "Plan") (He.ma K (He.ga K "Plan") "__init__") := by
  rw [e, ma_eq a]
  exact ⟨mk, a, i, k⟩
theorem n_mk (e : He.ga K "Plan" = g) (a : PySem.W.findIn K (.ref g) m = some none) : NoAttr K (He.ga K "Plan") m := by
  rw [e]
  exact a
theorem v_mk {n : Nat} {d : PyData} (a : PySem.W.nsIn K mainGlobals x = some (some (.ref f))) (c : dqB K n (.ref f) d = true) : dqB K n (.ref (He.ga K x)) d = true := by
  rw [ga_eq a]
  exact c
theorem kdi_mk {kvs : List (Int × Addr)} (a : PySem.W.nsIn K mainGlobals x = some (some (.ref f))) (c : kdiB K f kvs = true) : KDI K (He.ga K x) kvs := by
  rw [ga_eq a]
  exact ⟨c⟩
end
end Sb
/-! ### E. the defs over numbers and lists -/
namespace Sb
open PySem PySem.Spec PyProof.Rows L2
open Evl (Ex Ev EvT)
abbrev nI (n : Nat) : PyData := .int (n : Int)
abbrev nL (l : List Nat) : PyData := .list (l.map nI)
abbrev pI (p : Nat × Nat) : PyData := .tuple [nI p.1, nI p.2]
abbrev pL (l : List (Nat × Nat)) : PyData := .list (l.map pI)
abbrev aL (l : List (List Nat)) : PyData := .list (l.map nL)
local macro_rules | `(tactic| walk_at "rd") => `(tactic| first | exact rd_add | exact rd_sub | exact rd_lt | exact rd_le | exact rd_gt | exact rd_ge | exact rd_eq | exact rd_ne | exact rd_ixL (j := 0) rfl | exact rd_ixL (j := 1) rfl)
local macro_rules | `(tactic| walk_at "ed") => `(tactic| first
  | exact ed_int | exact ed_bl
  | (refine' ed_var rfl ?h; (case h => assumption))
  | (refine' ed_op ?a ?b ?c; (case a => walk_at "ed"); (case b => walk_at "ed"); (case c => walk_at "rd"))
  | (refine' ed_cb ?a ?c; (case a => walk_at "ea"); (case c => first | exact rc_len | exact rc_min | exact rc_max | exact rc_list))
  | (refine' ed_notV ?a; walk_at "ed")
  | (refine' ed_tup ?a ?b; (case a => walk_at "ea"); (case b => simp))
  | (refine' ed_lst ?a ?b; (case a => walk_at "ea"); (case b => simp)))
local macro_rules | `(tactic| walk_at "ea") => `(tactic| first | exact ea_nil | (refine' ea_cons ?a ?b; (case a => walk_at "ed"); (case b => walk_at "ea")))
local macro_rules | `(tactic| walk_at "et") => `(tactic| first
  | (refine' et_not ?a; (case a => walk_at "et"))
  | (refine' et_t ?a; (case a => walk_at "ed"))
  | (refine' et_b ?a; (case a => walk_at "ed")))

section
variable {P : Program} {w : World} {K : PySem.W.Frag} {mg : Str → Option Value} {base : Heap}
theorem ni_eq (a b : Nat) : decide ((a : Int) = (b : Int)) = decide (a = b) := decide_eq_decide.mpr (by omega)
/-! pair_of -/
def R_pair_of (ds : List PyData) (d : PyData) : Prop := ∃ i j : Nat, ds = [nI i, nI j] ∧ d = pI (min i j, max i j)
theorem sc_f_pair_of : FnScope ["one", "other"] ["one", "other"] (defScope s_f_pair_of) := ⟨rfl, rfl, rfl, by decide +kernel, rfl, by decide +kernel, by decide +kernel⟩
theorem f_pair_of (T : Txt K mg) : OkF P w K mg base 1 "pair_of" ["one", "other"] (spP K R_pair_of) := by
  refine okP T.d_pair_of sc_f_pair_of (fun ds d h => by obtain ⟨i, j, rfl, rfl⟩ := h; rfl) (fun _ _ _ _ _ _ us hl => match us, hl with | [_, _], _ => rfl) fun f cdv A outer s H vs ds d E hr hd hR => ?_
  obtain ⟨i, j, rfl, rfl⟩ := hR
  obtain ⟨x, y, rfl, hx, hy⟩ := hd.two
  refine ⟨_, (pss_one (ps_ret (pe_tup (pa_cons (pe_callB (call_min2 rfl) (by rfl) T.b_min (by decide +kernel) (pa_cons (pv 0) (pa_cons (pv 1) pa_nil))) (pa_cons (pe_callB (call_max2 rfl) (by rfl) T.b_max (by decide +kernel) (pa_cons (pv 0) (pa_cons (pv 1) pa_nil))) pa_nil))))), fun Q hq => ?_⟩
  refine b_ret (Ex.refl H) (ed_is (by walk_at "ed") ?_) hq
  have e1 : (if (j : Int) < (i : Int) then (j : Int) else (i : Int)) = ((min i j : Nat) : Int) := by split <;> omega
  have e2 : (if (j : Int) > (i : Int) then (j : Int) else (i : Int)) = ((max i j : Nat) : Int) := by split <;> omega
  rw [e1, e2]
/-! swapped -/
def swapA (a : Nat) : Nat := if a = 1 then 2 else if a = 2 then 1 else a
def R_swapped (ds : List PyData) (d : PyData) : Prop := ∃ a : Nat, ds = [nI a] ∧ d = nI (swapA a)
theorem sc_f_swapped : FnScope ["assignment"] ["assignment"] (defScope s_f_swapped) := ⟨rfl, rfl, rfl, by decide +kernel, rfl, by decide +kernel, by decide +kernel⟩
theorem f_swapped (T : Txt K mg) : OkF P w K mg base 1 "swapped" ["assignment"] (spP K R_swapped) := by
  refine okP T.d_swapped sc_f_swapped (fun ds d h => by obtain ⟨i, rfl, rfl⟩ := h; rfl) (fun _ _ _ _ _ _ us hl => match us, hl with | [_], _ => rfl) fun f cdv A outer s H vs ds d E hr hd hR => ?_
  obtain ⟨a, rfl, rfl⟩ := hR
  obtain ⟨x, rfl, hx⟩ := hd.one
  refine ⟨_, (pss_cons (ps_if (pt_cmpR op_eq (pv 0) (pe_gi rfl T.i_HOME_ONLY) (nomark _)) (pss_one (ps_ret (pe_gi rfl T.i_AWAY_ONLY))) pss_nil)
    (pss_cons (ps_if (pt_cmpR op_eq (pv 0) (pe_gi rfl T.i_AWAY_ONLY) (nomark _)) (pss_one (ps_ret (pe_gi rfl T.i_HOME_ONLY))) pss_nil)
    (pss_one (ps_ret (pv 0))))), fun Q hq => ?_⟩
  refine b_when (Ex.refl H) (by walk_at "et") (fun hb H1 e1 => ?_) (fun hb H1 e1 => ?_)
  · refine b_ret e1 (ed_is (by walk_at "ed") ?_) hq
    have h := of_decide_eq_true hb
    rw [swapA, if_pos (by omega)]
    rfl
  · have h := of_decide_eq_false hb
    refine b_when e1 (by walk_at "et") (fun hb H1 e1 => ?_) (fun hb H1 e1 => ?_)
    · refine b_ret e1 (ed_is (by walk_at "ed") ?_) hq
      have h2 := of_decide_eq_true hb
      rw [swapA, if_neg (by omega), if_pos (by omega)]
      rfl
    · have h2 := of_decide_eq_false hb
      refine b_ret e1 (ed_is (by walk_at "ed") ?_) hq
      rw [swapA, if_neg (by omega), if_neg (by omega)]
/-! with_item -/
theorem cutD_to (xs : List PyData) {i : Nat} (h : i ≤ xs.length) : cutD xs none (some (i : Int)) = xs.take i := by
  unfold cutD
  rw [HT.sIx_none, HT.sIx_nat, List.drop_zero, Nat.min_eq_left h]
  rfl
theorem cutD_from (xs : List PyData) {i : Nat} (h : i ≤ xs.length) : cutD xs (some (i : Int)) none = xs.drop i := by
  unfold cutD
  rw [HT.sIx_none, HT.sIx_nat, Nat.min_eq_left h]
  exact List.take_of_length_le (by rw [List.length_drop]; exact Nat.le_refl _)
theorem cutD_mid (xs : List PyData) {i j : Nat} (h : i ≤ xs.length) (h2 : j ≤ xs.length) : cutD xs (some (i : Int)) (some (j : Int)) = (xs.drop i).take (j - i) := by
  unfold cutD
  rw [HT.sIx_nat, HT.sIx_nat, Nat.min_eq_left h, Nat.min_eq_left h2]
def R_with_item (ds : List PyData) (d : PyData) : Prop := ∃ (l : List Nat) (i x : Nat), i < l.length ∧ l.length ≤ 1000 ∧ ds = [nL l, nI i, nI x] ∧ d = nL (l.set i x)
theorem sc_f_with_item : FnScope ["items", "place", "item"] ["items", "place", "item"] (defScope s_f_with_item) := ⟨rfl, rfl, rfl, by decide +kernel, rfl, by decide +kernel, by decide +kernel⟩
theorem f_with_item (T : Txt K mg) : OkF P w K mg base 1 "with_item" ["items", "place", "item"] (spP K R_with_item) := by
  refine okP T.d_with_item sc_f_with_item (fun ds d h => by obtain ⟨l, i, x, _, _, rfl, rfl⟩ := h; rfl) (fun _ _ _ _ _ _ us hl => match us, hl with | [_, _, _], _ => rfl) fun f cdv A outer s H vs ds d E hr hd hR => ?_
  obtain ⟨l, i, x, hi, hl, rfl, rfl⟩ := hR
  obtain ⟨v1, v2, v3, rfl, h1, h2, h3⟩ := hd.three
  refine ⟨_, (pss_one (ps_ret (pe_op op_cat (pe_op op_cat (pe_slice sl_list (pv 0) po_none (po_some (pv 1))) (pe_lst (pa_cons (pv 2) pa_nil))) (pe_slice sl_list (pv 0) (po_some (pe_op op_add (pv 1) pe_int)) po_none)))), fun Q hq => ?_⟩
  have e3 : ((i : Int) + 1) = ((i + 1 : Nat) : Int) := by omega
  have z : (l.map nI).length = l.length := List.length_map ..
  refine b_ret (Ex.refl H) (ed_is (ed_op (ed_op (ed_slice (by walk_at "ed") eo_none (eo_some (by walk_at "ed"))) (by walk_at "ed") (rd_cat ?_)) (ed_slice (by walk_at "ed") (eo_some (by walk_at "ed")) eo_none) (rd_cat ?_)) ?_) hq
  · rw [cutD_to _ (by omega), List.length_take]
    simp
    omega
  · rw [e3, cutD_to _ (by omega), cutD_from _ (by omega)]
    simp
    omega
  · rw [e3, cutD_to _ (by omega), cutD_from _ (by omega)]
    show PyData.list _ = PyData.list ((l.set i x).map nI)
    congr 1
    rw [List.map_set, List.set_eq_take_append_cons_drop, if_pos (by omega), List.append_assoc]
    rfl
end
end Sb
/-! ### F. allocations -/
namespace Sb
open PySem PySem.Spec PyProof.Rows L2
open Evl (Ex Ev EvT)
local macro_rules | `(tactic| walk_at "rd") => `(tactic| first | exact rd_add | exact rd_sub | exact rd_lt | exact rd_le | exact rd_gt | exact rd_ge | exact rd_eq | exact rd_ne | exact rd_ixL (j := 0) rfl | exact rd_ixL (j := 1) rfl)
local macro_rules | `(tactic| walk_at "ed") => `(tactic| first
  | exact ed_int | exact ed_bl
  | (refine' ed_var rfl ?h; (case h => assumption))
  | (refine' ed_op ?a ?b ?c; (case a => walk_at "ed"); (case b => walk_at "ed"); (case c => walk_at "rd"))
  | (refine' ed_cb ?a ?c; (case a => walk_at "ea"); (case c => first | exact rc_len | exact rc_min | exact rc_max | exact rc_list))
  | (refine' ed_notV ?a; walk_at "ed")
  | (refine' ed_tup ?a ?b; (case a => walk_at "ea"); (case b => simp))
  | (refine' ed_lst ?a ?b; (case a => walk_at "ea"); (case b => simp)))
local macro_rules | `(tactic| walk_at "ea") => `(tactic| first | exact ea_nil | (refine' ea_cons ?a ?b; (case a => walk_at "ed"); (case b => walk_at "ea")))
local macro_rules | `(tactic| walk_at "et") => `(tactic| first
  | (refine' et_not ?a; (case a => walk_at "et"))
  | (refine' et_t ?a; (case a => walk_at "ed"))
  | (refine' et_b ?a; (case a => walk_at "ed")))

section
variable {P : Program} {w : World} {K : PySem.W.Frag} {mg : Str → Option Value} {base : Heap}
theorem dqAll_mem {H : Hp} {l : List Nat} : DqAll K H (l.map fun (n : Nat) => V.int (n : Int)) (l.map nI) := by
  induction l with
  | nil => exact .nil
  | cons a r ih => exact .cons (.int _) ih
/-! is_allocation -/
def isAl (n : Nat) (vs : List Nat) : Bool := vs.length == n && vs.all fun v => decide (v ≤ 2)
def R_is_allocation (ds : List PyData) (d : PyData) : Prop := ∃ (vs : List Nat) (n : Nat), vs.length ≤ 30000 ∧ ds = [nL vs, nI n] ∧ d = .bool (isAl n vs)
theorem sc_f_is_allocation : FnScope ["values", "block_count", "value"] ["values", "block_count"] (defScope s_f_is_allocation) := ⟨rfl, rfl, rfl, by decide +kernel, rfl, by decide +kernel, by decide +kernel⟩
theorem f_is_allocation (T : Txt K mg) : OkF P w K mg base 1 "is_allocation" ["values", "block_count"] (spP K R_is_allocation) := by
  refine okP T.d_is_allocation sc_f_is_allocation (fun ds d h => by obtain ⟨i, j, _, rfl, rfl⟩ := h; rfl) (fun _ _ _ _ _ _ us hl => match us, hl with | [_, _], _ => rfl) fun f cdv A outer s H vs ds d E hr hd hR => ?_
  obtain ⟨l, n, hl, rfl, rfl⟩ := hR
  obtain ⟨x, y, rfl, hx, hy⟩ := hd.two
  refine ⟨_, (pss_one (ps_ret (pe_and (pe_cmpR op_eq (pe_callB call_len_seq (by rfl) T.b_len PySem.boot_len (pa_cons (pv 0) pa_nil)) (pv 1) (nomark _)) (pe_one (pe_callB (cr_all rfl) (by rfl) T.b_all (by decide +kernel) (pa_cons (pe_lc (own := [("value", 2)]) rfl sc_f_is_allocation.nd (pi_list (pv 0)) (blkOk_by (own := [("value", 2)]) (N := ["values", "block_count", "value"]) (sc := defScope s_f_is_allocation) (by decide +kernel)) (fun _ _ _ _ _ => by exact (pg_name (i := 2) sc_f_is_allocation.nd rfl (Or.inl rfl))) (fun _ _ _ _ _ => by exact pts_nil) (fun _ _ _ _ _ => by exact (pe_chain op_le op_le (pe_gi rfl T.i_EMPTY) (pv 2) (pe_gi rfl T.i_AWAY)))) pa_nil)))))), fun Q hq => ?_⟩
  refine b_ret (Ex.refl H) (ed_is (ed_andV (by walk_at "ed") fun _ => ed_cb (ea_cons (ed_is (ed_lcM (l := l) (c := nI) (fun v => .bool (decide (v ≤ 2))) (we_list (Evl.ev_var rfl) hx).wd (Nat.le_trans hl (by decide)) fun v _ x1 H1 e1 hx1 => ?_) ?_) ea_nil) (rc_all (bs := l.map fun v => decide (v ≤ 2)))) ?_) hq
  · refine ⟨_, fun Q q => q, rfl, rfl, ed_is (ed_chain ed_int (ed_var rfl hx1) rd_le (fun _ => ed_int) fun _ => rd_le) ?_⟩
    congr 1
    rw [show decide ((0 : Int) ≤ (v : Int)) = true from decide_eq_true (by omega), Bool.true_and]
    exact decide_eq_decide.mpr (by omega)
  · rw [List.map_map]
    rfl
  · congr 1
    unfold isAl
    rw [List.length_map, ni_eq, List.all_map]
    rfl
/-! respects -/
def allowed (a : Nat) : List Nat := if a = 0 then [0, 1, 2] else if a = 3 then [0] else [a]
def resp (as al : List Nat) : Bool := (as.zip al).all fun q => decide (q.2 ∈ allowed q.1)
def R_respects (ds : List PyData) (d : PyData) : Prop := ∃ as al : List Nat, (∀ a ∈ as, a ≤ 3) ∧ as.length ≤ 1000 ∧ ds = [nL as, nL al] ∧ d = .bool (resp as al)
theorem allowed_at {a : Nat} (h : a ≤ 3) : [PyData.tuple [.int 0, .int 1, .int 2], .tuple [.int 1], .tuple [.int 2], .tuple [.int 0]][a]? = some (.tuple ((allowed a).map fun n : Nat => PyData.int (n : Int))) := by
  have : a = 0 ∨ a = 1 ∨ a = 2 ∨ a = 3 := by omega
  rcases this with rfl | rfl | rfl | rfl <;> rfl
theorem ed_uses (T : Txt K mg) {σ : L2.St} {H : Hp} : ED K (tC (.ref (He.ga K "USES"))) σ H usesD := fun H1 _ Q q => q _ H1 (Ex.refl H1) (dq_written T.v_USES H1)
theorem in_nat (u : Nat) (l : List Nat) : decide ((u : Int) ∈ l.map fun n : Nat => (n : Int)) = decide (u ∈ l) := by
  refine decide_eq_decide.mpr ⟨fun h => ?_, fun h => List.mem_map.mpr ⟨u, h, rfl⟩⟩
  obtain ⟨n, hn, e⟩ := List.mem_map.mp h
  have : n = u := by omega
  rw [← this]
  exact hn
theorem sc_f_respects : FnScope ["assignments", "allocation", "assignment", "use"] ["assignments", "allocation"] (defScope s_f_respects) := ⟨rfl, rfl, rfl, by decide +kernel, rfl, by decide +kernel, by decide +kernel⟩
theorem f_respects (T : Txt K mg) : OkF P w K mg base 1 "respects" ["assignments", "allocation"] (spP K R_respects) := by
  refine okP T.d_respects sc_f_respects (fun ds d h => by obtain ⟨i, j, _, _, rfl, rfl⟩ := h; rfl) (fun _ _ _ _ _ _ us hl => match us, hl with | [_, _], _ => rfl) fun f cdv A outer s H vs ds d E hr hd hR => ?_
  obtain ⟨as, al, h3, hl, rfl, rfl⟩ := hR
  obtain ⟨x, y, rfl, hx, hy⟩ := hd.two
  refine ⟨_, (pss_one (ps_ret (pe_callB (cr_all rfl) (by rfl) T.b_all (by decide +kernel) (pa_cons (pe_lc (own := [("assignment", 2), ("use", 3)]) (g := gTup K 2 (gCons (gName 2) (gCons (gName 3) gNil))) rfl sc_f_respects.nd (pi_zip (by rfl) T.b_zip (pa_cons (pv 0) (pa_cons (pv 1) pa_nil))) (blkOk_by (own := [("assignment", 2), ("use", 3)]) (N := ["assignments", "allocation", "assignment", "use"]) (sc := defScope s_f_respects) (by decide +kernel)) (fun _ _ _ _ _ => by exact (pg_tup rfl (pgs_cons (pg_name (i := 2) sc_f_respects.nd rfl (Or.inl rfl)) (pgs_cons (pg_name (i := 3) sc_f_respects.nd rfl (Or.inl rfl)) pgs_nil)))) (fun _ _ _ _ _ => by exact pts_nil) (fun _ _ _ _ _ => by exact (pe_cmpR (r := rIn K false) op_in_seq (pv 3) (pe_ix (r := rIxT K) ix_tup (pe_gr rfl T.r_USES) (pv 2) (fun _ _ => rfl)) (by rfl)))) pa_nil)))), fun Q hq => ?_⟩
  refine b_ret (Ex.refl H) (ed_is (ed_cb (ea_cons (ed_is (ed_lcM (l := as.zip al) (c := fun q => .tuple [nI q.1, nI q.2]) (fun q => .bool (decide (q.2 ∈ allowed q.1))) (we_zipM (Evl.ev_var rfl) (Evl.ev_var rfl) hx hy).wd ?_ fun q hq2 x1 H1 e1 hx1 => ?_) ?_) ea_nil) (rc_all (bs := (as.zip al).map fun q => decide (q.2 ∈ allowed q.1)))) ?_) hq
  · rw [List.length_zip]
    omega
  · obtain ⟨x, y, hx2, hy2, hg⟩ := g_pair (i := 2) (j := 3) hx1
    refine ⟨_, fun Q q => hg _ Q q, rfl, rfl, ed_is (ed_op (ed_var rfl hy2) (ed_op (ed_uses T) (ed_var rfl hx2) (rd_ixT (allowed_at (h3 _ (List.of_mem_zip hq2).1)))) (by have := rd_inT (K := K) (i := (q.2 : Int)) (ns := (allowed q.1).map fun n : Nat => (n : Int)); rw [List.map_map] at this; exact this)) ?_⟩
    rw [in_nat]
  · rw [List.map_map]
    rfl
  · congr 1
    unfold resp
    rw [List.all_map]
    rfl
/-! are_rivals -/
def rivals (a b : Nat) : Bool := a != 0 && (b != 0 && a != b)
def R_are_rivals (ds : List PyData) (d : PyData) : Prop := ∃ i j : Nat, ds = [nI i, nI j] ∧ d = .bool (rivals i j)
theorem sc_f_are_rivals : FnScope ["one", "other"] ["one", "other"] (defScope s_f_are_rivals) := ⟨rfl, rfl, rfl, by decide +kernel, rfl, by decide +kernel, by decide +kernel⟩
theorem f_are_rivals (T : Txt K mg) : OkF P w K mg base 1 "are_rivals" ["one", "other"] (spP K R_are_rivals) := by
  refine okP T.d_are_rivals sc_f_are_rivals (fun ds d h => by obtain ⟨i, j, rfl, rfl⟩ := h; rfl) (fun _ _ _ _ _ _ us hl => match us, hl with | [_, _], _ => rfl) fun f cdv A outer s H vs ds d E hr hd hR => ?_
  obtain ⟨i, j, rfl, rfl⟩ := hR
  obtain ⟨x, y, rfl, hx, hy⟩ := hd.two
  refine ⟨_, (pss_one (ps_ret (pe_and (pe_cmpR op_ne (pv 0) (pe_gi rfl T.i_EMPTY) (nomark _)) (pe_and (pe_cmpR op_ne (pv 1) (pe_gi rfl T.i_EMPTY) (nomark _)) (pe_one (pe_cmpR op_ne (pv 0) (pv 1) (nomark _))))))), fun Q hq => ?_⟩
  refine b_ret (Ex.refl H) (ed_is (ed_andV (by walk_at "ed") fun _ => ed_andV (by walk_at "ed") fun _ => (by walk_at "ed")) ?_) hq
  congr 1
  have e0 : ∀ n : Nat, decide ((n : Int) = 0) = decide (n = 0) := fun n => decide_eq_decide.mpr (by omega)
  unfold rivals
  rw [e0, e0, ni_eq]
  rfl
/-! is_separated -/
def sep (ps : List (Nat × Nat)) (al : List Nat) : Bool := ps.all fun p => !(rivals (al.getD p.1 0) (al.getD p.2 0))
def R_is_separated (ds : List PyData) (d : PyData) : Prop := ∃ (ps : List (Nat × Nat)) (al : List Nat), (∀ p ∈ ps, p.1 < al.length ∧ p.2 < al.length) ∧ ps.length ≤ 1000 ∧ ds = [pL ps, nL al] ∧ d = .bool (sep ps al)
theorem nat_at {l : List Nat} {i : Nat} (h : i < l.length) : (l.map nI)[i]? = some (nI (l.getD i 0)) := by
  rw [List.getElem?_map, List.getElem?_eq_getElem h, List.getD_eq_getElem?_getD, List.getElem?_eq_getElem h]
  rfl
theorem sc_f_is_separated : FnScope ["pairs", "allocation", "one", "other"] ["pairs", "allocation"] (defScope s_f_is_separated) := ⟨rfl, rfl, rfl, by decide +kernel, rfl, by decide +kernel, by decide +kernel⟩
theorem f_is_separated (T : Txt K mg) : OkF P w K mg base 2 "is_separated" ["pairs", "allocation"] (spP K R_is_separated) := by
  refine okP T.d_is_separated sc_f_is_separated (fun ds d h => by obtain ⟨i, j, _, _, rfl, rfl⟩ := h; rfl) (fun _ _ _ _ _ _ us hl => match us, hl with | [_, _], _ => rfl) fun f cdv A outer s H vs ds d E hr hd hR => ?_
  obtain ⟨ps, al, h3, hl, rfl, rfl⟩ := hR
  obtain ⟨x, y, rfl, hx, hy⟩ := hd.two
  refine ⟨_, (pss_one (ps_ret (pe_not (pe_callB (cr_any rfl) (by rfl) T.b_any (by decide +kernel) (pa_cons (pe_lc (own := [("one", 2), ("other", 3)]) (g := gTup K 2 (gCons (gName 2) (gCons (gName 3) gNil))) rfl sc_f_is_separated.nd (pi_list (pv 0)) (blkOk_by (own := [("one", 2), ("other", 3)]) (N := ["pairs", "allocation", "one", "other"]) (sc := defScope s_f_is_separated) (by decide +kernel)) (fun _ _ _ _ _ => by exact (pg_tup rfl (pgs_cons (pg_name (i := 2) sc_f_is_separated.nd rfl (Or.inl rfl)) (pgs_cons (pg_name (i := 3) sc_f_is_separated.nd rfl (Or.inl rfl)) pgs_nil)))) (fun _ _ _ _ _ => by exact pts_nil) (fun _ _ _ _ _ => by exact (pe_callF (f_are_rivals T) (hr.mono (by decide)) rfl (pa_cons (pe_ix (r := rIxL K) ix_list (pv 1) (pv 2) (fun _ _ => rfl)) (pa_cons (pe_ix (r := rIxL K) ix_list (pv 1) (pv 3) (fun _ _ => rfl)) pa_nil))))) pa_nil))))), fun Q hq => ?_⟩
  refine b_ret (Ex.refl H) (ed_is (ed_notV (ed_cb (ea_cons (ed_is (ed_lcM (l := ps) (c := pI) (fun p => .bool (rivals (al.getD p.1 0) (al.getD p.2 0))) (we_list (Evl.ev_var rfl) hx).wd (Nat.le_trans hl (by decide)) fun p hp x1 H1 e1 hx1 => ?_) ?_) ea_nil) (rc_any (bs := ps.map fun p => rivals (al.getD p.1 0) (al.getD p.2 0))))) ?_) hq
  · obtain ⟨x, y, hx2, hy2, hg⟩ := g_pair (i := 2) (j := 3) hx1
    obtain ⟨q1, q2⟩ := h3 p hp
    refine ⟨_, fun Q q => hg _ Q q, rfl, rfl, ed_call (ea_cons (ed_op (ed_var rfl (hy.mono e1)) (ed_var rfl hx2) (rd_ixL (nat_at q1))) (ea_cons (ed_op (ed_var rfl (hy.mono e1)) (ed_var rfl hy2) (rd_ixL (nat_at q2))) ea_nil)) ⟨_, _, rfl, rfl⟩⟩
  · rw [List.map_map]
    rfl
  · congr 1
    unfold sep
    rw [List.any_map, List.not_any_eq_all_not]
    rfl
/-! is_valid -/
def R_is_valid (ds : List PyData) (d : PyData) : Prop := ∃ (as : List Nat) (ps : List (Nat × Nat)) (al : List Nat), (∀ a ∈ as, a ≤ 3) ∧ as.length ≤ 1000 ∧ (∀ p ∈ ps, p.1 < al.length ∧ p.2 < al.length) ∧ ps.length ≤ 1000 ∧
  ds = [nL as, pL ps, nL al] ∧ d = .bool (resp as al && sep ps al)
theorem sc_f_is_valid : FnScope ["assignments", "pairs", "allocation"] ["assignments", "pairs", "allocation"] (defScope s_f_is_valid) := ⟨rfl, rfl, rfl, by decide +kernel, rfl, by decide +kernel, by decide +kernel⟩
theorem f_is_valid (T : Txt K mg) : OkF P w K mg base 3 "is_valid" ["assignments", "pairs", "allocation"] (spP K R_is_valid) := by
  refine okP T.d_is_valid sc_f_is_valid (fun ds d h => by obtain ⟨i, j, k, _, _, _, _, rfl, rfl⟩ := h; rfl) (fun _ _ _ _ _ _ us hl => match us, hl with | [_, _, _], _ => rfl) fun f cdv A outer s H vs ds d E hr hd hR => ?_
  obtain ⟨as, ps, al, h1, h2, h3, h4, rfl, rfl⟩ := hR
  obtain ⟨x, y, z, rfl, hx, hy, hz⟩ := hd.three
  refine ⟨_, (pss_one (ps_ret (pe_and (pe_callF (f_respects T) (hr.mono (by decide)) rfl (pa_cons (pv 0) (pa_cons (pv 2) pa_nil))) (pe_one (pe_callF (f_is_separated T) (hr.mono (by decide)) rfl (pa_cons (pv 1) (pa_cons (pv 2) pa_nil))))))), fun Q hq => ?_⟩
  exact b_ret (Ex.refl H) (ed_andV (ed_call (by walk_at "ea") ⟨_, _, h1, h2, rfl, rfl⟩) fun _ => ed_call (by walk_at "ea") ⟨_, _, h3, h4, rfl, rfl⟩) hq
/-! seats_with -/
def sw (seats al : List Nat) (u : Nat) : Nat := (((seats.zip al).filter fun q => q.2 == u).map (·.1)).sum
def R_seats_with (ds : List PyData) (d : PyData) : Prop := ∃ (ss al : List Nat) (u : Nat), ss.length ≤ 1000 ∧ ds = [nL ss, nL al, nI u] ∧ d = nI (sw ss al u)
theorem sum_nat : ∀ l : List Nat, (l.map fun n : Nat => (n : Int)).sum = ((l.sum : Nat) : Int)
  | [] => rfl
  | a :: r => by
    rw [List.map_cons, List.sum_cons, List.sum_cons, sum_nat r]
    omega
theorem fm_filter {α β : Type} (f : α → Bool) (g : α → β) : ∀ l : List α, (l.filterMap fun a => if f a = true then some (g a) else none) = (l.filter f).map g
  | [] => rfl
  | a :: r => by
    have ih := fm_filter f g r
    cases h : f a <;> simp [h, ih]
theorem sc_f_seats_with : FnScope ["seats", "allocation", "use", "many", "own"] ["seats", "allocation", "use"] (defScope s_f_seats_with) := ⟨rfl, rfl, rfl, by decide +kernel, rfl, by decide +kernel, by decide +kernel⟩
theorem f_seats_with (T : Txt K mg) : OkF P w K mg base 1 "seats_with" ["seats", "allocation", "use"] (spP K R_seats_with) := by
  refine okP T.d_seats_with sc_f_seats_with (fun ds d h => by obtain ⟨i, j, k, _, rfl, rfl⟩ := h; rfl) (fun _ _ _ _ _ _ us hl => match us, hl with | [_, _, _], _ => rfl) fun f cdv A outer s H vs ds d E hr hd hR => ?_
  obtain ⟨ss, al, u, hl, rfl, rfl⟩ := hR
  obtain ⟨x, y, z, rfl, hx, hy, hz⟩ := hd.three
  refine ⟨_, (pss_one (ps_ret (pe_callB (cr_sum rfl) (by rfl) T.b_sum (by decide +kernel) (pa_cons (pe_lc (own := [("many", 3), ("own", 4)]) (g := gTup K 2 (gCons (gName 3) (gCons (gName 4) gNil))) rfl sc_f_seats_with.nd (pi_zip (by rfl) T.b_zip (pa_cons (pv 0) (pa_cons (pv 1) pa_nil))) (blkOk_by (own := [("many", 3), ("own", 4)]) (N := ["seats", "allocation", "use", "many", "own"]) (sc := defScope s_f_seats_with) (by decide +kernel)) (fun _ _ _ _ _ => by exact (pg_tup rfl (pgs_cons (pg_name (i := 3) sc_f_seats_with.nd rfl (Or.inl rfl)) (pgs_cons (pg_name (i := 4) sc_f_seats_with.nd rfl (Or.inl rfl)) pgs_nil)))) (fun _ _ _ _ _ => by exact (pts_one (pt_cmpR op_eq (pv 4) (pv 2) (nomark _)))) (fun _ _ _ _ _ => by exact (pv 3))) pa_nil)))), fun Q hq => ?_⟩
  refine b_ret (Ex.refl H) (ed_is (ed_cb (ea_cons (ed_is (ed_lc (l := ss.zip al) (c := fun q => .tuple [nI q.1, nI q.2]) (fun q => if (q.2 == u) = true then some (nI q.1) else none) (we_zipM (Evl.ev_var rfl) (Evl.ev_var rfl) hx hy).wd ?_ fun q hq2 x1 H1 e1 hx1 => ?_) ?_) ea_nil) (rc_sum (ns := ((((ss.zip al).filter fun q => q.2 == u).map (·.1)).map fun n : Nat => (n : Int))))) ?_) hq
  · rw [List.length_zip]
    omega
  · obtain ⟨x, y, hx2, hy2, hg⟩ := g_pair (i := 3) (j := 4) hx1
    refine ⟨_, fun Q q => hg _ Q q, rfl, et_is (et_t (ed_op (ed_var rfl hy2) (ed_var rfl (hz.mono e1)) rd_eq)) ?_, fun r hr => ?_⟩
    · rw [ni_eq]
      cases h : (q.2 == u)
      · rw [if_neg Bool.false_ne_true]
        exact decide_eq_false (by simpa using h)
      · rw [if_pos rfl]
        exact decide_eq_true (by simpa using h)
    · cases h : (q.2 == u)
      · rw [h, if_neg Bool.false_ne_true] at hr
        cases hr
      · rw [h, if_pos rfl] at hr
        cases hr
        exact ⟨rfl, ed_var rfl hx2⟩
  · rw [fm_filter, List.map_map, List.map_map]
    rfl
  · rw [sum_nat]
    rfl
/-! sold -/
def R_sold (ds : List PyData) (d : PyData) : Prop := ∃ ss al : List Nat, ss.length ≤ 1000 ∧ ds = [nL ss, nL al] ∧ d = nI (sw ss al 1 + sw ss al 2)
theorem sc_f_sold : FnScope ["seats", "allocation"] ["seats", "allocation"] (defScope s_f_sold) := ⟨rfl, rfl, rfl, by decide +kernel, rfl, by decide +kernel, by decide +kernel⟩
theorem f_sold (T : Txt K mg) : OkF P w K mg base 2 "sold" ["seats", "allocation"] (spP K R_sold) := by
  refine okP T.d_sold sc_f_sold (fun ds d h => by obtain ⟨i, j, _, rfl, rfl⟩ := h; rfl) (fun _ _ _ _ _ _ us hl => match us, hl with | [_, _], _ => rfl) fun f cdv A outer s H vs ds d E hr hd hR => ?_
  obtain ⟨ss, al, hl, rfl, rfl⟩ := hR
  obtain ⟨x, y, rfl, hx, hy⟩ := hd.two
  refine ⟨_, (pss_one (ps_ret (pe_op op_add (pe_callF (f_seats_with T) (hr.mono (by decide)) rfl (pa_cons (pv 0) (pa_cons (pv 1) (pa_cons (pe_gi rfl T.i_HOME) pa_nil)))) (pe_callF (f_seats_with T) (hr.mono (by decide)) rfl (pa_cons (pv 0) (pa_cons (pv 1) (pa_cons (pe_gi rfl T.i_AWAY) pa_nil))))))), fun Q hq => ?_⟩
  refine b_ret (Ex.refl H) (ed_is (ed_op (ed_call (by walk_at "ea") ⟨ss, al, 1, hl, rfl, rfl⟩) (ed_call (by walk_at "ea") ⟨ss, al, 2, hl, rfl, rfl⟩) rd_add) ?_) hq
  rw [← Int.natCast_add]
/-! combined, join, meet -/
def comb (a b s w : Nat) : Nat := if a = s ∨ b = s then s else if a = w ∧ b = w then w else 0
def R_combined (ds : List PyData) (d : PyData) : Prop := ∃ a b s w : Nat, ds = [nI a, nI b, nI s, nI w] ∧ d = nI (comb a b s w)
theorem sc_f_combined : FnScope ["one", "other", "strong", "weak"] ["one", "other", "strong", "weak"] (defScope s_f_combined) := ⟨rfl, rfl, rfl, by decide +kernel, rfl, by decide +kernel, by decide +kernel⟩
theorem f_combined (T : Txt K mg) : OkF P w K mg base 1 "combined" ["one", "other", "strong", "weak"] (spP K R_combined) := by
  refine okP T.d_combined sc_f_combined (fun ds d h => by obtain ⟨a, b, c, e, rfl, rfl⟩ := h; rfl) (fun _ _ _ _ _ _ us hl => match us, hl with | [_, _, _, _], _ => rfl) fun f cdv A outer s H vs ds d E hr hd hR => ?_
  obtain ⟨a, b, c, e, rfl, rfl⟩ := hR
  obtain ⟨v1, v2, v3, v4, rfl, h1, h2, h3, h4⟩ := hd.four
  refine ⟨_, (pss_cons (ps_if (PW.pt (pw_or (pt_cmpR op_eq (pv 0) (pv 2) (nomark _)) (pw_or1 (pt_cmpR op_eq (pv 1) (pv 2) (nomark _))))) (pss_one (ps_ret (pv 2))) pss_nil)
    (pss_cons (ps_if (PW.pt (pw_and (pt_cmpR op_eq (pv 0) (pv 3) (nomark _)) (pw_and1 (pt_cmpR op_eq (pv 1) (pv 3) (nomark _))))) (pss_one (ps_ret (pv 3))) pss_nil)
    (pss_one (ps_ret (pe_gi rfl T.i_EMPTY))))), fun Q hq => ?_⟩
  refine b_when (Ex.refl H) (et_or (by walk_at "et") fun _ => (by walk_at "et")) (fun hb H1 e1 => ?_) (fun hb H1 e1 => ?_)
  · refine b_ret e1 (ed_is (by walk_at "ed") ?_) hq
    rw [ni_eq, ni_eq, Bool.or_eq_true, decide_eq_true_eq, decide_eq_true_eq] at hb
    rw [comb, if_pos hb]
  · rw [ni_eq, ni_eq, Bool.or_eq_false_iff, decide_eq_false_iff_not, decide_eq_false_iff_not] at hb
    refine b_when e1 (et_and (by walk_at "et") fun _ => (by walk_at "et")) (fun hb2 H1 e1 => ?_) (fun hb2 H1 e1 => ?_)
    · refine b_ret e1 (ed_is (by walk_at "ed") ?_) hq
      rw [ni_eq, ni_eq, Bool.and_eq_true, decide_eq_true_eq, decide_eq_true_eq] at hb2
      rw [comb, if_neg (by omega), if_pos hb2]
    · refine b_ret e1 (ed_is (by walk_at "ed") ?_) hq
      rw [ni_eq, ni_eq, Bool.and_eq_false_iff, decide_eq_false_iff_not, decide_eq_false_iff_not] at hb2
      rw [comb, if_neg (by omega), if_neg (by omega)]
      rfl
def R_two (g : List Nat → List Nat → List Nat) (ds : List PyData) (d : PyData) : Prop := ∃ v w : List Nat, v.length ≤ 1000 ∧ ds = [nL v, nL w] ∧ d = nL (g v w)
theorem join_eq (v w : List Nat) : (v.zip w).map (fun q => nI (comb q.1 q.2 1 2)) = (Kv437.join v w).map nI := by
  unfold Kv437.join
  rw [List.map_map]
  rfl
theorem meet_eq (v w : List Nat) : (v.zip w).map (fun q => nI (comb q.1 q.2 2 1)) = (Kv437.meet v w).map nI := by
  unfold Kv437.meet
  rw [List.map_map]
  rfl
theorem sc_f_join : FnScope ["first", "second", "one", "other"] ["first", "second"] (defScope s_f_join) := ⟨rfl, rfl, rfl, by decide +kernel, rfl, by decide +kernel, by decide +kernel⟩
theorem f_join (T : Txt K mg) : OkF P w K mg base 2 "join" ["first", "second"] (spP K (R_two Kv437.join)) := by
  refine okP T.d_join sc_f_join (fun ds d h => by obtain ⟨i, j, _, rfl, rfl⟩ := h; rfl) (fun _ _ _ _ _ _ us hl => match us, hl with | [_, _], _ => rfl) fun f cdv A outer s H vs ds d E hr hd hR => ?_
  obtain ⟨v, u, hl, rfl, rfl⟩ := hR
  obtain ⟨x, y, rfl, hx, hy⟩ := hd.two
  refine ⟨_, (pss_one (ps_ret (pe_lc (own := [("one", 2), ("other", 3)]) (g := gTup K 2 (gCons (gName 2) (gCons (gName 3) gNil))) rfl sc_f_join.nd (pi_zip (by rfl) T.b_zip (pa_cons (pv 0) (pa_cons (pv 1) pa_nil))) (blkOk_by (own := [("one", 2), ("other", 3)]) (N := ["first", "second", "one", "other"]) (sc := defScope s_f_join) (by decide +kernel)) (fun _ _ _ _ _ => by exact (pg_tup rfl (pgs_cons (pg_name (i := 2) sc_f_join.nd rfl (Or.inl rfl)) (pgs_cons (pg_name (i := 3) sc_f_join.nd rfl (Or.inl rfl)) pgs_nil)))) (fun _ _ _ _ _ => by exact pts_nil) (fun _ _ _ _ _ => by exact (pe_callF (f_combined T) (hr.mono (by decide)) rfl (pa_cons (pv 2) (pa_cons (pv 3) (pa_cons (pe_gi rfl T.i_HOME) (pa_cons (pe_gi rfl T.i_AWAY) pa_nil))))))))), fun Q hq => ?_⟩
  refine b_ret (Ex.refl H) (ed_is (ed_lcM (l := v.zip u) (c := fun q => .tuple [nI q.1, nI q.2]) (fun q => nI (comb q.1 q.2 1 2)) (we_zipM (Evl.ev_var rfl) (Evl.ev_var rfl) hx hy).wd ?_ fun q hq2 x1 H1 e1 hx1 => ?_) ?_) hq
  · rw [List.length_zip]
    omega
  · obtain ⟨x, y, hx2, hy2, hg⟩ := g_pair (i := 2) (j := 3) hx1
    exact ⟨_, fun Q q => hg _ Q q, rfl, rfl, ed_call (by walk_at "ea") ⟨q.1, q.2, 1, 2, rfl, rfl⟩⟩
  · rw [join_eq]
theorem sc_f_meet : FnScope ["first", "second", "one", "other"] ["first", "second"] (defScope s_f_meet) := ⟨rfl, rfl, rfl, by decide +kernel, rfl, by decide +kernel, by decide +kernel⟩
theorem f_meet (T : Txt K mg) : OkF P w K mg base 2 "meet" ["first", "second"] (spP K (R_two Kv437.meet)) := by
  refine okP T.d_meet sc_f_meet (fun ds d h => by obtain ⟨i, j, _, rfl, rfl⟩ := h; rfl) (fun _ _ _ _ _ _ us hl => match us, hl with | [_, _], _ => rfl) fun f cdv A outer s H vs ds d E hr hd hR => ?_
  obtain ⟨v, u, hl, rfl, rfl⟩ := hR
  obtain ⟨x, y, rfl, hx, hy⟩ := hd.two
  refine ⟨_, (pss_one (ps_ret (pe_lc (own := [("one", 2), ("other", 3)]) (g := gTup K 2 (gCons (gName 2) (gCons (gName 3) gNil))) rfl sc_f_meet.nd (pi_zip (by rfl) T.b_zip (pa_cons (pv 0) (pa_cons (pv 1) pa_nil))) (blkOk_by (own := [("one", 2), ("other", 3)]) (N := ["first", "second", "one", "other"]) (sc := defScope s_f_meet) (by decide +kernel)) (fun _ _ _ _ _ => by exact (pg_tup rfl (pgs_cons (pg_name (i := 2) sc_f_meet.nd rfl (Or.inl rfl)) (pgs_cons (pg_name (i := 3) sc_f_meet.nd rfl (Or.inl rfl)) pgs_nil)))) (fun _ _ _ _ _ => by exact pts_nil) (fun _ _ _ _ _ => by exact (pe_callF (f_combined T) (hr.mono (by decide)) rfl (pa_cons (pv 2) (pa_cons (pv 3) (pa_cons (pe_gi rfl T.i_AWAY) (pa_cons (pe_gi rfl T.i_HOME) pa_nil))))))))), fun Q hq => ?_⟩
  refine b_ret (Ex.refl H) (ed_is (ed_lcM (l := v.zip u) (c := fun q => .tuple [nI q.1, nI q.2]) (fun q => nI (comb q.1 q.2 2 1)) (we_zipM (Evl.ev_var rfl) (Evl.ev_var rfl) hx hy).wd ?_ fun q hq2 x1 H1 e1 hx1 => ?_) ?_) hq
  · rw [List.length_zip]
    omega
  · obtain ⟨x, y, hx2, hy2, hg⟩ := g_pair (i := 2) (j := 3) hx1
    exact ⟨_, fun Q q => hg _ Q q, rfl, rfl, ed_call (by walk_at "ea") ⟨q.1, q.2, 2, 1, rfl, rfl⟩⟩
  · rw [meet_eq]
end
end Sb
/-! ### G. searches -/
namespace Sb
open PySem PySem.Spec PyProof.Rows L2
open Evl (Ex Ev EvT EvL)
local macro_rules | `(tactic| walk_at "rd") => `(tactic| first | exact rd_add | exact rd_sub | exact rd_lt | exact rd_le | exact rd_gt | exact rd_ge | exact rd_eq | exact rd_ne | exact rd_ixL (j := 0) rfl | exact rd_ixL (j := 1) rfl)
local macro_rules | `(tactic| walk_at "ed") => `(tactic| first
  | exact ed_int | exact ed_bl
  | (refine' ed_var rfl ?h; (case h => assumption))
  | (refine' ed_op ?a ?b ?c; (case a => walk_at "ed"); (case b => walk_at "ed"); (case c => walk_at "rd"))
  | (refine' ed_cb ?a ?c; (case a => walk_at "ea"); (case c => first | exact rc_len | exact rc_min | exact rc_max | exact rc_list))
  | (refine' ed_notV ?a; walk_at "ed")
  | (refine' ed_tup ?a ?b; (case a => walk_at "ea"); (case b => simp))
  | (refine' ed_lst ?a ?b; (case a => walk_at "ea"); (case b => simp)))
local macro_rules | `(tactic| walk_at "ea") => `(tactic| first | exact ea_nil | (refine' ea_cons ?a ?b; (case a => walk_at "ed"); (case b => walk_at "ea")))
local macro_rules | `(tactic| walk_at "et") => `(tactic| first
  | (refine' et_not ?a; (case a => walk_at "et"))
  | (refine' et_t ?a; (case a => walk_at "ed"))
  | (refine' et_b ?a; (case a => walk_at "ed")))

/-- the heap without p -/
def rm (p : Addr) (H : Hp) : Hp := fun b => if b = p then none else H b
theorem rm_ex {p : Addr} {H : Hp} : Ex (rm p H) H := fun a o h => by
  unfold rm at h
  split at h
  · cases h
  · exact h
theorem rm_upd {p : Addr} {H : Hp} {o : HO} : rm p (upd H p o) = rm p H := by
  funext b
  unfold rm upd
  split <;> rfl
theorem rm_mono {p : Addr} {H H' : Hp} (e : Ex H H') : Ex (rm p H) (rm p H') := fun a o h => by
  unfold rm at h ⊢
  split at h
  · cases h
  · rename_i hn
    rw [if_neg hn]
    exact e a o h
theorem rm_at {p a : Addr} {H : Hp} {o : HO} (h : H a = some o) (n : a ≠ p) : rm p H a = some o := by
  unfold rm
  rw [if_neg n]
  exact h
abbrev natV (l : List Nat) : List V := l.map fun (n : Nat) => V.int (n : Int)
section
variable {K : PySem.W.Frag} {σ : L2.St} {H H' : Hp} {tl ta te tu : TE} {items : List PyData} {g : TG}
theorem nats_of : ∀ {ns : List Nat} {xs : List V}, DqAll K H xs (ns.map nI) → xs = natV ns
  | [], _, h => by cases h; rfl
  | n :: r, _, h => by
    cases h with
    | cons a b =>
      cases a
      rw [nats_of b]
      rfl
theorem dq_nats {a : Addr} {l : List Nat} (h : H a = some (.lst (natV l))) : Dq K H (.ref a) (nL l) := .lst h dqAll_mem
theorem el_cat {a : Addr} {xs : List V} {v : V} (ha : Ev ta σ H (.ref a)) (hx : H a = some (.lst xs)) (hb : Ev tu σ H v) (hz : xs.length ≤ 10000) : EvL (tOp rCat ta (tLst (tCons tu tNil))) σ H (xs ++ [v]) := fun H1 e Q q =>
  ha H1 e _ fun H2 e2 => hb H2 (e.trans e2) _ fun H3 e3 => ⟨by show 1 ≤ sizeLine; decide, fun b hb => by
    have e4 := Evl.Ex.new (o := .lst [v]) hb
    refine ⟨a, b, xs, [v], rfl, rfl, e4 _ _ (((e.trans e2).trans e3) _ _ hx), upd_same, Nat.le_trans (show xs.length + 1 ≤ 10001 by omega) (by decide), fun p hp => ?_⟩
    exact q p _ (Evl.fresh_back ((e2.trans e3).trans e4) hp) (((e2.trans e3).trans e4).trans (Evl.Ex.new hp)) upd_same⟩
/-- walks whose items stood in H -/
structure WalkS (K : PySem.W.Frag) (J : It) (H : Hp) (items : List PyData) : Prop where
  goes : ∀ i H3, Ex H H3 → i < items.length → J.go i H3
  stops : ∀ H3, Ex H H3 → J.stop items.length H3
  yields : ∀ i H3 x H4, Ex H H3 → i < items.length → J.yld i H3 x H4 → H4 = H3 ∧ ∃ d, items[i]? = some d ∧ Dq K H x d
theorem walkS_list {a : Addr} {xs : List V} (h : H a = some (.lst xs)) (hx : DqAll K H xs items) : WalkS K (Itl K a) H items := by
  have hl := hx.len
  refine ⟨fun i H3 e hi => (walk_list (xs := xs)).goes i H3 (by omega) (SqL.of (e _ _ h)), fun H3 e => ?_, fun i H3 x H4 e hi y => ?_⟩
  · have := (walk_list (K := K) (a := a) (xs := xs)).stops H3 (SqL.of (e _ _ h))
    rw [hl] at this
    exact this
  · obtain ⟨rfl, hi2⟩ := (walk_list (xs := xs)).yields i H3 x H4 (by omega) (SqL.of (e _ _ h)) y
    obtain ⟨d, h1, h2⟩ := hx.get hi2
    exact ⟨rfl, d, h1, h2⟩
theorem walkS_tup {a : Addr} {xs : List V} (h : SqT K H a xs) (hx : DqAll K H xs items) : WalkS K (Itt K a) H items := by
  have hl := hx.len
  refine ⟨fun i H3 e hi => (walk_tup (xs := xs)).goes i H3 (by omega) (Evl.ex_t e h), fun H3 e => ?_, fun i H3 x H4 e hi y => ?_⟩
  · have := (walk_tup (K := K) (a := a) (xs := xs)).stops H3 (Evl.ex_t e h)
    rw [hl] at this
    exact this
  · obtain ⟨rfl, hi2⟩ := (walk_tup (xs := xs)).yields i H3 x H4 (by omega) (Evl.ex_t e h) y
    obtain ⟨d, h1, h2⟩ := hx.get hi2
    exact ⟨rfl, d, h1, h2⟩
theorem ws_list {v : V} {H1 : Hp} {R : It → Hp → Prop} (h : Ev tl σ H v) (hd : Dq K H v (.list items)) (e : Ex H H1) (r : ∀ J H2, Ex H1 H2 → WalkS K J H items → R J H2) : iList K tl σ H1 R := h H1 e _ fun H2 e2 => by
  obtain ⟨a, xs, rfl, ha, hx⟩ := hd.lst_of
  exact ⟨a, rfl, ⟨xs, SqL.of ((e.trans e2) _ _ ha)⟩, r _ H2 e2 (walkS_list ha hx)⟩
theorem ws_tup {v : V} {H1 : Hp} {R : It → Hp → Prop} (h : Ev tl σ H v) (hd : Dq K H v (.tuple items)) (e : Ex H H1) (r : ∀ J H2, Ex H1 H2 → WalkS K J H items → R J H2) : iTup K tl σ H1 R := h H1 e _ fun H2 e2 => by
  obtain ⟨a, xs, rfl, ha, hx⟩ := hd.tup_of
  exact ⟨a, rfl, ⟨xs, Evl.ex_t (e.trans e2) ha⟩, r _ H2 e2 (walkS_tup ha hx)⟩
/-- .. over a new list -/
theorem ws_new {H1 : Hp} {R : It → Hp → Prop} (h : ED K tl σ H (.list items)) (e : Ex H H1) (r : ∀ J H2, Ex H1 H2 → WalkS K J H2 items → R J H2) : iList K tl σ H1 R := h H1 e _ fun v H2 e2 hv => by
  obtain ⟨a, xs, rfl, ha, hx⟩ := hv.lst_of
  exact ⟨a, rfl, ⟨xs, SqL.of ha⟩, r _ H2 e2 (walkS_list ha hx)⟩
theorem s_forS {J : It} {tb : TS} {D : Ends} (w : WalkS K J H items) (Pv : Nat → L2.St → Hp → Prop) (h0 : Pv 0 σ H') (hG : ∀ i σ' H3, Pv i σ' H3 → Ex H H3)
    (hs : ∀ i d x σ' H3, items[i]? = some d → Pv i σ' H3 → Dq K H x d → g x σ' H3 fun σ2 H2 => tb { D with nx := Pv (i + 1), ct := Pv (i + 1), bk := D.nx } σ2 H2) (hd : ∀ σ' H3, Pv items.length σ' H3 → D.nx σ' H3) :
    ∃ W : Nat → Nat → L2.St → Hp → Prop, (∃ m, W 0 m σ H') ∧ ∀ i m σ H, W i m σ H →
      (J.stop i H ∧ D.nx σ H) ∨ (J.go i H ∧ ∃ N : L2.St → Hp → Prop, (∀ σ' H', N σ' H' → ∃ m', m' < m ∧ W (i + 1) m' σ' H') ∧ ∀ x H', J.yld i H x H' → g x σ H' fun σ2 H2 => tb { D with nx := N, ct := N, bk := D.nx } σ2 H2) :=
  for_it (n := items.length) (G := fun H3 => Ex H H3) (Y := fun i H3 x H' => H' = H3 ∧ ∃ d, items[i]? = some d ∧ Dq K H x d) ⟨fun i H3 hi e => w.goes i H3 e hi, fun H3 e => w.stops H3 e, fun i H3 x H4 hi e y => w.yields i H3 x H4 e hi y⟩
    Pv h0 (fun i σ' H3 _ p => hG i σ' H3 p) (fun i x σ' H3 H4 _ p ⟨e, d, hdi, hx⟩ => by subst e; exact hs i d x σ' _ hdi p hx) hd
/-- a list at p that grows: what it holds does not lean on p -/
def Acc (K : PySem.W.Frag) (p : Addr) (H : Hp) (ds : List PyData) : Prop := ∃ acc, H p = some (.lst acc) ∧ DqAll K (rm p H) acc ds
theorem Acc.mono {p : Addr} {ds : List PyData} (e : Ex H H') (a : Acc K p H ds) : Acc K p H' ds := by
  obtain ⟨acc, h, hd⟩ := a
  exact ⟨acc, e _ _ h, hd.mono (rm_mono e)⟩
theorem Acc.dq {p : Addr} {ds : List PyData} (a : Acc K p H ds) : Dq K H (.ref p) (.list ds) := by
  obtain ⟨acc, h, hd⟩ := a
  exact .lst h (hd.mono rm_ex)
theorem acc_nil {p : Addr} (h : H p = some (.lst [])) : Acc K p H [] := ⟨[], h, .nil⟩
/-- a new list of numbers is appended -/
theorem Acc.app {p q : Addr} {ds : List PyData} {l : List Nat} {acc : List V} {H1 : Hp} (h : H p = some (.lst acc)) (hd : DqAll K (rm p H) acc ds) (e : Ex H H1) (hq : H q = none) (h1 : H1 q = some (.lst (natV l))) :
    Acc K p (upd H1 p (.lst (acc ++ [.ref q]))) (ds ++ [nL l]) := by
  refine ⟨_, upd_same, ?_⟩
  rw [rm_upd]
  have n : q ≠ p := fun z => by rw [z, h] at hq; cases hq
  exact (hd.mono (rm_mono e)).append (.cons (dq_nats (rm_at h1 n)) .nil)
end
section
variable {P : Program} {w : World} {K : PySem.W.Frag} {mg : Str → Option Value} {base : Heap}
/-! with_one_more -/
def more (hs : List (List Nat)) (us : List Nat) : List (List Nat) := hs.flatMap fun h => us.map fun u => h ++ [u]
theorem more_len (hs : List (List Nat)) (us : List Nat) : (more hs us).length = hs.length * us.length := by
  unfold more
  induction hs with
  | nil => simp
  | cons a r ih =>
    rw [List.flatMap_cons, List.length_append, ih, List.length_map, List.length_cons, Nat.add_mul, Nat.one_mul, Nat.add_comm]
theorem take_more {α : Type} {l : List α} {i : Nat} {x : α} (h : l[i]? = some x) : l.take (i + 1) = l.take i ++ [x] := by
  rw [List.take_succ, h]
  rfl
theorem more_more {hs : List (List Nat)} {us : List Nat} {i : Nat} {h : List Nat} (e : hs[i]? = some h) : more (hs.take (i + 1)) us = more (hs.take i) us ++ us.map fun u => h ++ [u] := by
  unfold more
  rw [take_more e, List.flatMap_append]
  simp
def R_with_one_more (ds : List PyData) (d : PyData) : Prop := ∃ (hs : List (List Nat)) (us : List Nat), hs.length ≤ 10000 ∧ us.length ≤ 3 ∧ (∀ h ∈ hs, h.length ≤ 1000) ∧ ds = [aL hs, .tuple (us.map nI)] ∧ d = aL (more hs us)
theorem sc_f_with_one_more : FnScope ["heads", "uses", "found", "head", "use"] ["heads", "uses"] (defScope s_f_with_one_more) := ⟨rfl, rfl, rfl, by decide +kernel, rfl, by decide +kernel, by decide +kernel⟩
theorem f_with_one_more (T : Txt K mg) : OkF P w K mg base 1 "with_one_more" ["heads", "uses"] (spP K R_with_one_more) := by
  refine okP T.d_with_one_more sc_f_with_one_more (fun ds d h => by obtain ⟨i, j, _, _, _, rfl, rfl⟩ := h; rfl) (fun _ _ _ _ _ _ us hl => match us, hl with | [_, _], _ => rfl) fun f cdv A outer s H vs ds d E hr hd hR => ?_
  obtain ⟨hs, us, z1, z2, z3, rfl, rfl⟩ := hR
  obtain ⟨vh, vu, rfl, h1, h2⟩ := hd.two
  refine ⟨_, (pss_cons (ps_set (i := 2) sc_f_with_one_more.nd rfl (Or.inl rfl) (pe_lst pa_nil))
    (pss_cons (ps_for PassesOwn.never rfl (pi_list (pv 0)) (pg_name (i := 3) sc_f_with_one_more.nd rfl (Or.inl rfl)) (pss_one (ps_for PassesOwn.never rfl (pi_tup (pv 1)) (pg_name (i := 4) sc_f_with_one_more.nd rfl (Or.inl rfl)) (pss_one (ps_expr (pe_bm PySem.F.plainAttrs_list PySem.F.slot_list_append PySem.F.type_list_append mt_append (pv 2) (pa_cons (pe_op op_cat (pv 3) (pe_lst (pa_cons (pv 4) pa_nil))) pa_nil)))))))
    (pss_one (ps_ret (pv 2))))), fun Q hq => ?_⟩
  refine Evl.q_asgL (Evl.el_lst Evl.ea_nil (by decide)) fun p H1 hp e1 hp1 => ?_
  refine ws_list (Evl.ev_var rfl) h1 e1 fun J H2 e2 w => s_forS w (fun i σ' H' => (∃ a3 a4, σ' = [some vh, some vu, some (.ref p), a3, a4]) ∧ Ex H H' ∧ Acc K p H' ((more (hs.take i) us).map nL)) ⟨⟨_, _, rfl⟩, e1.trans e2, acc_nil (e2 _ _ hp1)⟩ (fun _ _ _ p => p.2.1) ?_ ?_
  · rintro i d x σ' H3 hi ⟨⟨a3, a4, rfl⟩, e3, ac⟩ hx
    obtain ⟨h, hh, rfl⟩ := map_at hi
    have hm := List.mem_of_getElem? hh
    refine ws_tup (Evl.ev_var rfl) h2 e3 fun J2 H4 e4 w2 => s_forS w2 (fun j σ' H' => (∃ a4, σ' = [some vh, some vu, some (.ref p), some x, a4]) ∧ Ex H H' ∧ Acc K p H' ((more (hs.take i) us ++ (us.take j).map fun u => h ++ [u]).map nL)) ⟨⟨_, rfl⟩, e3.trans e4, ?_⟩ (fun _ _ _ p => p.2.1) ?_ ?_
    · have : more (hs.take i) us ++ (us.take 0).map (fun u => h ++ [u]) = more (hs.take i) us := by simp
      rw [this]
      exact ac.mono e4
    · rintro j d y σ' H5 hj ⟨⟨a4, rfl⟩, e5, acc, hacc, hd5⟩ hy
      obtain ⟨u, hu, rfl⟩ := map_at hj
      obtain ⟨a, xs, rfl, ha, hxs⟩ := hx.lst_of
      have exs := nats_of hxs
      subst exs
      cases hy
      have hlen : acc.length ≤ 90000 := by
        rw [hd5.len, List.length_map, List.length_append, more_len, List.length_map]
        have q1 : (hs.take i).length ≤ 10000 := Nat.le_trans (List.length_take_le' ..) z1
        have q2 : (us.take j).length ≤ 3 := Nat.le_trans (List.length_take_le' ..) z2
        have q3 := Nat.mul_le_mul q1 z2
        omega
      refine Evl.s_appL (K := K) hacc (Evl.ev_var rfl) (el_cat (Evl.ev_var rfl) (e5 _ _ ha) (Evl.ev_var rfl) ?_) (by omega) fun q H6 hq e6 h6 => ⟨⟨_, rfl⟩, Evl.Ex.mut (e5.trans e6) hp, ?_⟩
      · rw [List.length_map]
        have := z3 h hm
        omega
      · have e7 : (natV h ++ [V.int (u : Int)]) = natV (h ++ [u]) := by simp
        rw [e7] at h6
        have := Acc.app hacc hd5 e6 hq h6
        rw [take_more hu, List.map_append (l₁ := us.take j), ← List.append_assoc, List.map_append (f := nL)]
        exact this
    · rintro σ' H5 ⟨⟨a4, rfl⟩, e5, ac5⟩
      refine ⟨⟨_, _, rfl⟩, e5, ?_⟩
      rw [List.length_map, List.take_length] at ac5
      rw [more_more hh]
      exact ac5
  · rintro σ' H3 ⟨⟨a3, a4, rfl⟩, e3, ac⟩
    rw [List.length_map, List.take_length] at ac
    exact ⟨_, rfl, hq _ _ e3 ac.dq⟩
/-! valid_allocations -/
def allocs (as : List Nat) : List (List Nat) := as.foldl (fun found a => more found (allowed a)) [[]]
def valids (as : List Nat) (ps : List (Nat × Nat)) : List (List Nat) := (allocs as).filter fun al => sep ps al
theorem allowed_len (a : Nat) : (allowed a).length ≤ 3 := by
  unfold allowed
  split
  · decide
  · split
    · decide
    · exact (by show 1 ≤ 3; decide)
theorem allocs_more {as : List Nat} {i a : Nat} (h : as[i]? = some a) : allocs (as.take (i + 1)) = more (allocs (as.take i)) (allowed a) := by
  unfold allocs
  rw [take_more h, List.foldl_append]
  rfl
theorem allocs_len : ∀ (n : Nat) (as : List Nat), as.length = n → (allocs as).length ≤ 3 ^ n
  | 0, as, h => by
    have : as = [] := List.length_eq_zero_iff.mp h
    subst this
    decide
  | n + 1, as, h => by
    have h1 : as[n]? = some as[n] := List.getElem?_eq_getElem (by omega)
    have e := allocs_more h1
    have e2 : as.take (n + 1) = as := List.take_of_length_le (by omega)
    rw [e2] at e
    rw [e, more_len]
    have ih := allocs_len n (as.take n) (by rw [List.length_take]; omega)
    have := Nat.mul_le_mul ih (allowed_len as[n])
    rw [Nat.pow_succ]
    exact this
theorem allocs_mem : ∀ (n : Nat) (as : List Nat), as.length = n → ∀ al ∈ allocs as, al.length = n
  | 0, as, h => by
    have : as = [] := List.length_eq_zero_iff.mp h
    subst this
    intro al hal
    have : al ∈ [[]] := hal
    simp at this
    rw [this]
    rfl
  | n + 1, as, h => by
    have h1 : as[n]? = some as[n] := List.getElem?_eq_getElem (by omega)
    have e := allocs_more h1
    have e2 : as.take (n + 1) = as := List.take_of_length_le (by omega)
    rw [e2] at e
    intro al hal
    rw [e] at hal
    unfold more at hal
    obtain ⟨hd, h2, h3⟩ := List.mem_flatMap.mp hal
    obtain ⟨u, _, rfl⟩ := List.mem_map.mp h3
    have ih := allocs_mem n (as.take n) (by rw [List.length_take]; omega) hd h2
    rw [List.length_append, ih]
    rfl
def R_valid_allocations (ds : List PyData) (d : PyData) : Prop := ∃ (as : List Nat) (ps : List (Nat × Nat)), as.length ≤ 6 ∧ (∀ a ∈ as, a ≤ 3) ∧ (∀ p ∈ ps, p.1 < as.length ∧ p.2 < as.length) ∧ ps.length ≤ 1000 ∧ ds = [nL as, pL ps] ∧ d = aL (valids as ps)
theorem sc_f_valid_allocations : FnScope ["assignments", "pairs", "found", "assignment", "allocation"] ["assignments", "pairs"] (defScope s_f_valid_allocations) := ⟨rfl, rfl, rfl, by decide +kernel, rfl, by decide +kernel, by decide +kernel⟩
theorem f_valid_allocations (T : Txt K mg) : OkF P w K mg base 3 "valid_allocations" ["assignments", "pairs"] (spP K R_valid_allocations) := by
  refine okP T.d_valid_allocations sc_f_valid_allocations (fun ds d h => by obtain ⟨i, j, _, _, _, _, rfl, rfl⟩ := h; rfl) (fun _ _ _ _ _ _ us hl => match us, hl with | [_, _], _ => rfl) fun f cdv A outer s H vs ds d E hr hd hR => ?_
  obtain ⟨as, ps, z1, z2, z3, z4, rfl, rfl⟩ := hR
  obtain ⟨va, vp, rfl, h1, h2⟩ := hd.two
  have h6 : ∀ n, n ≤ 6 → 3 ^ n ≤ 729 := fun n hn => Nat.pow_le_pow_right (by decide) hn
  refine ⟨_, (pss_cons (ps_set (i := 2) sc_f_valid_allocations.nd rfl (Or.inl rfl) (pe_lst (pa_cons (pe_lst pa_nil) pa_nil)))
    (pss_cons (ps_for PassesOwn.never rfl (pi_list (pv 0)) (pg_name (i := 3) sc_f_valid_allocations.nd rfl (Or.inl rfl)) (pss_one (ps_set (i := 2) sc_f_valid_allocations.nd rfl (Or.inl rfl) (pe_callF (f_with_one_more T) (hr.mono (by decide)) rfl (pa_cons (pv 2) (pa_cons (pe_ix (r := rIxT K) ix_tup (pe_gr rfl T.r_USES) (pv 3) (fun _ _ => rfl)) pa_nil))))))
    (pss_one (ps_ret (pe_lc (own := [("allocation", 4)]) rfl sc_f_valid_allocations.nd (pi_list (pv 2)) (blkOk_by (own := [("allocation", 4)]) (N := ["assignments", "pairs", "found", "assignment", "allocation"]) (sc := defScope s_f_valid_allocations) (by decide +kernel)) (fun _ _ _ _ _ => by exact (pg_name (i := 4) sc_f_valid_allocations.nd rfl (Or.inl rfl))) (fun _ _ _ _ _ => by exact (pts_one (pt_val (pe_callF (f_is_separated T) (hr.mono (by decide)) rfl (pa_cons (pv 1) (pa_cons (pv 4) pa_nil)))))) (fun _ _ _ _ _ => by exact (pv 4))))))), fun Q hq => ?_⟩
  refine b_set (K := K) (Ex.refl H) (ed_lst (ea_cons (ed_lst ea_nil (by decide)) ea_nil) (by decide)) fun vf H1 e1 hvf => ?_
  refine ws_list (Evl.ev_var rfl) h1 e1 fun J H2 e2 w => s_forS w (fun i σ' H' => (∃ vf a3 a4, σ' = [some va, some vp, some vf, a3, a4] ∧ Dq K H' vf (aL (allocs (as.take i)))) ∧ Ex H H') ⟨⟨_, _, _, rfl, hvf.mono e2⟩, e1.trans e2⟩ (fun _ _ _ p => p.2) ?_ ?_
  · rintro i d x σ' H3 hi ⟨⟨vf, a3, a4, rfl, hf⟩, e3⟩ hx
    obtain ⟨a, ha, rfl⟩ := map_at hi
    have hm := List.mem_of_getElem? ha
    have hlt := (List.getElem?_eq_some_iff.mp ha).1
    have hx3 := hx.mono e3
    have ht : (as.take i).length = i := by rw [List.length_take]; omega
    refine b_set1 (K := K) (H0 := H3) (Ex.refl H3) (ed_call (ea_cons (ed_var rfl hf) (ea_cons (ed_op (ed_uses T) (ed_var rfl hx3) (rd_ixT (allowed_at (z2 a hm)))) ea_nil)) ⟨allocs (as.take i), allowed a, ?_, allowed_len a, ?_, rfl, rfl⟩) fun v H4 e4 hv => ⟨⟨_, _, _, rfl, ?_⟩, e3.trans e4⟩
    · exact Nat.le_trans (allocs_len i _ ht) (Nat.le_trans (h6 i (by omega)) (by decide))
    · intro h hh
      rw [allocs_mem i _ ht h hh]
      omega
    · rw [allocs_more ha]
      exact hv
  · rintro σ' H3 ⟨⟨vf, a3, a4, rfl, hf⟩, e3⟩
    rw [List.length_map, List.take_length] at hf
    have h23 := h2.mono e3
    refine b_ret (H0 := H3) (Ex.refl H3) (ed_lcI (c := nL) (l := allocs as) (fun al => sep ps al) (ed_var rfl hf) ?_ (fun _ => rfl) (fun _ => rfl) fun al hal x H4 e4 hx => ?_) fun v H4 e4 hv => hq v H4 (e3.trans e4) hv
    · exact Nat.le_trans (allocs_len _ as rfl) (Nat.le_trans (h6 _ z1) (by decide))
    · have hl := allocs_mem _ as rfl al hal
      exact et_b (ed_call (ea_cons (ed_var rfl (h23.mono e4)) (ea_cons (ed_var rfl hx) ea_nil)) ⟨ps, al, by rw [hl]; exact z3, z4, rfl, rfl⟩)
end
end Sb
/-! ### H. the best allocation; the planner's object -/
namespace Sb
open PySem PySem.Spec PyProof.Rows L2
open Evl (Ex Ev EvT EvL)
local macro_rules | `(tactic| walk_at "rd") => `(tactic| first | exact rd_add | exact rd_sub | exact rd_lt | exact rd_le | exact rd_gt | exact rd_ge | exact rd_eq | exact rd_ne | exact rd_ixL (j := 0) rfl | exact rd_ixL (j := 1) rfl)
local macro_rules | `(tactic| walk_at "ed") => `(tactic| first
  | exact ed_int | exact ed_bl
  | (refine' ed_var rfl ?h; (case h => assumption))
  | (refine' ed_op ?a ?b ?c; (case a => walk_at "ed"); (case b => walk_at "ed"); (case c => walk_at "rd"))
  | (refine' ed_cb ?a ?c; (case a => walk_at "ea"); (case c => first | exact rc_len | exact rc_min | exact rc_max | exact rc_list))
  | (refine' ed_notV ?a; walk_at "ed")
  | (refine' ed_tup ?a ?b; (case a => walk_at "ea"); (case b => simp))
  | (refine' ed_lst ?a ?b; (case a => walk_at "ea"); (case b => simp)))
local macro_rules | `(tactic| walk_at "ea") => `(tactic| first | exact ea_nil | (refine' ea_cons ?a ?b; (case a => walk_at "ed"); (case b => walk_at "ea")))
local macro_rules | `(tactic| walk_at "et") => `(tactic| first
  | (refine' et_not ?a; (case a => walk_at "et"))
  | (refine' et_t ?a; (case a => walk_at "ed"))
  | (refine' et_b ?a; (case a => walk_at "ed")))

section
variable {P : Program} {w : World} {K : PySem.W.Frag} {mg : Str → Option Value} {base : Heap}
theorem valids_mem {as : List Nat} {ps : List (Nat × Nat)} {al : List Nat} (h : al ∈ valids as ps) : al.length = as.length := allocs_mem _ as rfl al (List.mem_filter.mp h).1
theorem q_forNew {σ : L2.St} {H H1 : Hp} {tl : TE} {items : List PyData} {g : TG} {tb tz : TS} {D : Ends} (h : ED K tl σ H (.list items)) (e : Ex H H1) (Pv : Hp → Nat → L2.St → Hp → Prop) (h0 : ∀ H2, Ex H1 H2 → Pv H2 0 σ H2)
    (hG : ∀ H2 i σ' H3, Pv H2 i σ' H3 → Ex H2 H3)
    (hs : ∀ H2, Ex H1 H2 → ∀ i d x σ' H3, items[i]? = some d → Pv H2 i σ' H3 → Dq K H2 x d → g x σ' H3 fun σ2 H4 => tb { D with nx := Pv H2 (i + 1), ct := Pv H2 (i + 1), bk := tz D } σ2 H4)
    (hd : ∀ H2, Ex H1 H2 → ∀ σ' H3, Pv H2 items.length σ' H3 → tz D σ' H3) : tSeq (tFor (iList K tl) g tb) tz D σ H1 :=
  ws_new h e fun J H2 e2 w => s_forS (D := { D with nx := tz D }) w (Pv H2) (h0 H2 e2) (hG H2) (hs H2 e2) (hd H2 e2)
/-! best_allocation -/
def soldN (ss al : List Nat) : Nat := sw ss al 1 + sw ss al 2
def bstep (ss : List Nat) (k : Nat) (mb : Int × List Nat) (al : List Nat) : Int × List Nat := if k ≤ sw ss al 2 ∧ mb.1 < (soldN ss al : Int) then ((soldN ss al : Int), al) else mb
def bestP (ss as : List Nat) (ps : List (Nat × Nat)) (k : Nat) : Int × List Nat := (valids as ps).foldl (bstep ss k) (-1, [])
theorem fold_more {α β : Type} {l : List α} {i : Nat} {x : α} (f : β → α → β) (b : β) (h : l[i]? = some x) : (l.take (i + 1)).foldl f b = f ((l.take i).foldl f b) x := by
  rw [take_more h, List.foldl_append]
  rfl
def Nice (ss as : List Nat) (ps : List (Nat × Nat)) : Prop := ss.length ≤ 1000 ∧ as.length ≤ 6 ∧ (∀ a ∈ as, a ≤ 3) ∧ (∀ p ∈ ps, p.1 < as.length ∧ p.2 < as.length) ∧ ps.length ≤ 1000
def R_best_allocation (ds : List PyData) (d : PyData) : Prop := ∃ (ss as : List Nat) (ps : List (Nat × Nat)) (k : Nat), Nice ss as ps ∧ ds = [nL ss, nL as, pL ps, nI k] ∧ d = .tuple [.int (bestP ss as ps k).1, nL (bestP ss as ps k).2]
theorem sc_f_best_allocation : FnScope ["seats", "assignments", "pairs", "least_away", "most", "best", "allocation"] ["seats", "assignments", "pairs", "least_away"] (defScope s_f_best_allocation) := ⟨rfl, rfl, rfl, by decide +kernel, rfl, by decide +kernel, by decide +kernel⟩
theorem f_best_allocation (T : Txt K mg) : OkF P w K mg base 4 "best_allocation" ["seats", "assignments", "pairs", "least_away"] (spP K R_best_allocation) := by
  refine okP T.d_best_allocation sc_f_best_allocation (fun ds d h => by obtain ⟨_, _, _, _, _, rfl, rfl⟩ := h; rfl) (fun _ _ _ _ _ _ us hl => match us, hl with | [_, _, _, _], _ => rfl) fun f cdv A outer s H vs ds d E hr hd hR => ?_
  obtain ⟨ss, as, ps, k, ⟨z0, z1, z2, z3, z4⟩, rfl, rfl⟩ := hR
  obtain ⟨v0, v1, v2, v3, rfl, h0, h1, h2, h3⟩ := hd.four
  refine ⟨_, (pss_cons (ps_par (i := 4) (j := 5) rfl sc_f_best_allocation.nd rfl rfl (by decide) rfl rfl (pa_cons (pe_gi rfl T.i_NONE_FOUND) (pa_cons (pe_lst pa_nil) pa_nil)) rfl)
    (pss_cons (ps_for PassesOwn.never rfl (pi_list (pe_callF (f_valid_allocations T) (hr.mono (by decide)) rfl (pa_cons (pv 1) (pa_cons (pv 2) pa_nil)))) (pg_name (i := 6) sc_f_best_allocation.nd rfl (Or.inl rfl)) (pss_one (ps_if (PW.pt (pw_and (pt_cmpR op_ge (pe_callF (f_seats_with T) (hr.mono (by decide)) rfl (pa_cons (pv 0) (pa_cons (pv 6) (pa_cons (pe_gi rfl T.i_AWAY) pa_nil)))) (pv 3) (nomark _)) (pw_and1 (pt_cmpR op_gt (pe_callF (f_sold T) (hr.mono (by decide)) rfl (pa_cons (pv 0) (pa_cons (pv 6) pa_nil))) (pv 4) (nomark _))))) (pss_one (ps_par (i := 4) (j := 5) rfl sc_f_best_allocation.nd rfl rfl (by decide) rfl rfl (pa_cons (pe_callF (f_sold T) (hr.mono (by decide)) rfl (pa_cons (pv 0) (pa_cons (pv 6) pa_nil))) (pa_cons (pv 6) pa_nil)) rfl)) pss_nil)))
    (pss_one (ps_ret (pe_tup (pa_cons (pv 4) (pa_cons (pv 5) pa_nil))))))), fun Q hq => ?_⟩
  refine b_par (K := K) (d1 := .int (-1)) (d2 := .list []) (Ex.refl H) (ea_cons ed_int (ea_cons (ed_lst ea_nil (by decide)) ea_nil)) fun vm vb H1 e1 hm hb => ?_
  refine q_forNew (K := K) (items := (valids as ps).map nL) (ed_call (ea_cons (ed_var rfl (h1.mono e1)) (ea_cons (ed_var rfl (h2.mono e1)) ea_nil)) ⟨as, ps, z1, z2, z3, z4, rfl, rfl⟩) (Ex.refl H1) (fun H2 i σ' H' => (∃ vm vb a6, σ' = [some v0, some v1, some v2, some v3, some vm, some vb, a6] ∧ Dq K H' vm (.int (((valids as ps).take i).foldl (bstep ss k) (-1, [])).1) ∧ Dq K H' vb (nL (((valids as ps).take i).foldl (bstep ss k) (-1, [])).2)) ∧ Ex H2 H')
    (fun H2 e2 => ⟨⟨_, _, _, rfl, hm.mono e2, hb.mono e2⟩, Ex.refl H2⟩) (fun _ _ _ _ p => p.2) ?_ ?_
  · rintro H2 e2 i d x σ' H3 hi ⟨⟨vm, vb, a6, rfl, hm, hb⟩, e3⟩ hx
    have e12 := e1.trans e2
    obtain ⟨al, hal, rfl⟩ := map_at hi
    have e13 := e12.trans e3
    have hst := fold_more (bstep ss k) (-1, []) hal
    have g0 := h0.mono e13
    have g3 := h3.mono e13
    have gx := hx.mono e3
    refine b_when1 (K := K) (Ex.refl H3) (et_and (et_t (ed_op (ed_call (ea_cons (ed_var rfl g0) (ea_cons (ed_var rfl gx) (ea_cons ed_int ea_nil))) ⟨ss, al, 2, z0, rfl, rfl⟩) (ed_var rfl g3) rd_ge))
      fun _ => et_t (ed_op (ed_call (ea_cons (ed_var rfl g0) (ea_cons (ed_var rfl gx) ea_nil)) ⟨ss, al, z0, rfl, rfl⟩) (ed_var rfl hm) rd_gt)) (fun hc H4 e4 => ?_) (fun hc H4 e4 => ?_)
    · rw [Bool.and_eq_true, decide_eq_true_eq, decide_eq_true_eq] at hc
      refine b_par1 (K := K) (H0 := H3) e4 (ea_cons (ed_call (ea_cons (ed_var rfl g0) (ea_cons (ed_var rfl gx) ea_nil)) ⟨ss, al, z0, rfl, rfl⟩) (ea_cons (ed_var rfl gx) ea_nil)) fun vm2 vb2 H5 e5 hm2 hb2 => ⟨⟨_, _, _, rfl, ?_, ?_⟩, e3.trans e5⟩
      · rw [hst, bstep, if_pos ⟨by omega, hc.2⟩]
        exact hm2
      · rw [hst, bstep, if_pos ⟨by omega, hc.2⟩]
        exact hb2
    · rw [Bool.and_eq_false_iff, decide_eq_false_iff_not, decide_eq_false_iff_not] at hc
      have hn : ¬ (k ≤ sw ss al 2 ∧ (((valids as ps).take i).foldl (bstep ss k) (-1, [])).1 < (soldN ss al : Int)) := fun z => by
        rcases hc with hc | hc
        · exact hc (by omega)
        · exact hc z.2
      refine ⟨⟨_, _, _, rfl, ?_, ?_⟩, e3.trans e4⟩
      · rw [hst, bstep, if_neg hn]
        exact hm.mono e4
      · rw [hst, bstep, if_neg hn]
        exact hb.mono e4
  · rintro H2 e2 σ' H3 ⟨⟨vm, vb, a6, rfl, hm, hb⟩, e3⟩
    have e12 := e1.trans e2
    rw [List.length_map, List.take_length] at hm hb
    exact b_ret (K := K) (H0 := H3) (Ex.refl H3) (by walk_at "ed") fun v H4 e4 hv => hq v H4 ((e12.trans e3).trans e4) hv
/-! most_away -/
def mstep (ss : List Nat) (m : Int) (al : List Nat) : Int := if (sw ss al 2 : Int) > m then (sw ss al 2 : Int) else m
def mostP (ss as : List Nat) (ps : List (Nat × Nat)) : Int := (valids as ps).foldl (mstep ss) (-1)
def R_most_away (ds : List PyData) (d : PyData) : Prop := ∃ (ss as : List Nat) (ps : List (Nat × Nat)), Nice ss as ps ∧ ds = [nL ss, nL as, pL ps] ∧ d = .int (mostP ss as ps)
theorem sc_f_most_away : FnScope ["seats", "assignments", "pairs", "most", "allocation"] ["seats", "assignments", "pairs"] (defScope s_f_most_away) := ⟨rfl, rfl, rfl, by decide +kernel, rfl, by decide +kernel, by decide +kernel⟩
theorem f_most_away (T : Txt K mg) : OkF P w K mg base 4 "most_away" ["seats", "assignments", "pairs"] (spP K R_most_away) := by
  refine okP T.d_most_away sc_f_most_away (fun ds d h => by obtain ⟨_, _, _, _, rfl, rfl⟩ := h; rfl) (fun _ _ _ _ _ _ us hl => match us, hl with | [_, _, _], _ => rfl) fun f cdv A outer s H vs ds d E hr hd hR => ?_
  obtain ⟨ss, as, ps, ⟨z0, z1, z2, z3, z4⟩, rfl, rfl⟩ := hR
  obtain ⟨v0, v1, v2, rfl, h0, h1, h2⟩ := hd.three
  refine ⟨_, (pss_cons (ps_set (i := 3) sc_f_most_away.nd rfl (Or.inl rfl) (pe_gi rfl T.i_NONE_FOUND))
    (pss_cons (ps_for PassesOwn.never rfl (pi_list (pe_callF (f_valid_allocations T) (hr.mono (by decide)) rfl (pa_cons (pv 1) (pa_cons (pv 2) pa_nil)))) (pg_name (i := 4) sc_f_most_away.nd rfl (Or.inl rfl)) (pss_one (ps_set (i := 3) sc_f_most_away.nd rfl (Or.inl rfl) (pe_callB (call_max2 rfl) (by rfl) T.b_max (by decide +kernel) (pa_cons (pv 3) (pa_cons (pe_callF (f_seats_with T) (hr.mono (by decide)) rfl (pa_cons (pv 0) (pa_cons (pv 4) (pa_cons (pe_gi rfl T.i_AWAY) pa_nil)))) pa_nil))))))
    (pss_one (ps_ret (pv 3))))), fun Q hq => ?_⟩
  refine b_set (K := K) (d := .int (-1)) (Ex.refl H) ed_int fun vm H1 e1 hm => ?_
  refine q_forNew (K := K) (items := (valids as ps).map nL) (ed_call (ea_cons (ed_var rfl (h1.mono e1)) (ea_cons (ed_var rfl (h2.mono e1)) ea_nil)) ⟨as, ps, z1, z2, z3, z4, rfl, rfl⟩) (Ex.refl H1) (fun H2 i σ' H' => (∃ vm a4, σ' = [some v0, some v1, some v2, some vm, a4] ∧ Dq K H' vm (.int (((valids as ps).take i).foldl (mstep ss) (-1)))) ∧ Ex H2 H')
    (fun H2 e2 => ⟨⟨_, _, rfl, hm.mono e2⟩, Ex.refl H2⟩) (fun _ _ _ _ p => p.2) ?_ ?_
  · rintro H2 e2 i d x σ' H3 hi ⟨⟨vm, a4, rfl, hm⟩, e3⟩ hx
    have e12 := e1.trans e2
    obtain ⟨al, hal, rfl⟩ := map_at hi
    have g0 := h0.mono (e12.trans e3)
    have gx := hx.mono e3
    refine b_set1 (K := K) (H0 := H3) (Ex.refl H3) (ed_cb (ea_cons (ed_var rfl hm) (ea_cons (ed_call (ea_cons (ed_var rfl g0) (ea_cons (ed_var rfl gx) (ea_cons ed_int ea_nil))) ⟨ss, al, 2, z0, rfl, rfl⟩) ea_nil)) rc_max) fun v H4 e4 hv => ⟨⟨_, _, rfl, ?_⟩, e3.trans e4⟩
    rw [fold_more (mstep ss) (-1) hal]
    exact hv
  · rintro H2 e2 σ' H3 ⟨⟨vm, a4, rfl, hm⟩, e3⟩
    have e12 := e1.trans e2
    rw [List.length_map, List.take_length] at hm
    exact b_ret (K := K) (H0 := H3) (Ex.refl H3) (by walk_at "ed") fun v H4 e4 hv => hq v H4 ((e12.trans e3).trans e4) hv
/-! seats_or_refusal, fixed -/
def orRef (z : Int) : Int := if z = -1 then -33 else z
def R_seats_or_refusal (ds : List PyData) (d : PyData) : Prop := ∃ z : Int, ds = [.int z] ∧ d = .list [.int (orRef z)]
theorem sc_f_seats_or_refusal : FnScope ["seats"] ["seats"] (defScope s_f_seats_or_refusal) := ⟨rfl, rfl, rfl, by decide +kernel, rfl, by decide +kernel, by decide +kernel⟩
theorem f_seats_or_refusal (T : Txt K mg) : OkF P w K mg base 1 "seats_or_refusal" ["seats"] (spP K R_seats_or_refusal) := by
  refine okP T.d_seats_or_refusal sc_f_seats_or_refusal (fun ds d h => by obtain ⟨z, rfl, rfl⟩ := h; rfl) (fun _ _ _ _ _ _ us hl => match us, hl with | [_], _ => rfl) fun f cdv A outer s H vs ds d E hr hd hR => ?_
  obtain ⟨z, rfl, rfl⟩ := hR
  obtain ⟨x, rfl, hx⟩ := hd.one
  refine ⟨_, (pss_cons (ps_if (pt_cmpR op_eq (pv 0) (pe_gi rfl T.i_NONE_FOUND) (nomark _)) (pss_one (ps_ret (pe_lst (pa_cons (pe_gi rfl T.i_NO_ALLOCATION) pa_nil)))) pss_nil)
    (pss_one (ps_ret (pe_lst (pa_cons (pv 0) pa_nil))))), fun Q hq => ?_⟩
  refine b_when (Ex.refl H) (by walk_at "et") (fun hb H1 e1 => ?_) (fun hb H1 e1 => ?_)
  · have h := of_decide_eq_true hb
    refine b_ret e1 (ed_is (by walk_at "ed") ?_) hq
    rw [orRef, if_pos h]
  · have h := of_decide_eq_false hb
    refine b_ret e1 (ed_is (by walk_at "ed") ?_) hq
    rw [orRef, if_neg h]
def fixA (u : Nat) : Nat := if u = 0 then 3 else u
def R_fixed (ds : List PyData) (d : PyData) : Prop := ∃ u : Nat, ds = [nI u] ∧ d = nI (fixA u)
theorem sc_f_fixed : FnScope ["use"] ["use"] (defScope s_f_fixed) := ⟨rfl, rfl, rfl, by decide +kernel, rfl, by decide +kernel, by decide +kernel⟩
theorem f_fixed (T : Txt K mg) : OkF P w K mg base 1 "fixed" ["use"] (spP K R_fixed) := by
  refine okP T.d_fixed sc_f_fixed (fun ds d h => by obtain ⟨z, rfl, rfl⟩ := h; rfl) (fun _ _ _ _ _ _ us hl => match us, hl with | [_], _ => rfl) fun f cdv A outer s H vs ds d E hr hd hR => ?_
  obtain ⟨u, rfl, rfl⟩ := hR
  obtain ⟨x, rfl, hx⟩ := hd.one
  refine ⟨_, (pss_cons (ps_if (pt_cmpR op_eq (pv 0) (pe_gi rfl T.i_EMPTY) (nomark _)) (pss_one (ps_ret (pe_gi rfl T.i_CLOSED))) pss_nil)
    (pss_one (ps_ret (pv 0)))), fun Q hq => ?_⟩
  refine b_when (Ex.refl H) (by walk_at "et") (fun hb H1 e1 => ?_) (fun hb H1 e1 => ?_)
  · have h := of_decide_eq_true hb
    refine b_ret e1 (ed_is (by walk_at "ed") ?_) hq
    rw [fixA, if_pos (by omega)]
    rfl
  · have h := of_decide_eq_false hb
    refine b_ret e1 (ed_is (by walk_at "ed") ?_) hq
    rw [fixA, if_neg (by omega)]
end
/-! the planner's object -/
abbrev SA (s : Kv437.Stand) : List Nat := s.blocks.map (·.seats)
abbrev AA (s : Kv437.Stand) : List Nat := s.blocks.map (·.assignment)
abbrev pF (sv av pv : V) : List (Str × V) := [("seats", sv), ("assignments", av), ("pairs", pv)]
/-- the instance at p, its three values -/
def PlanV (K : PySem.W.Frag) (H : Hp) (p : Addr) (sv av pv : V) : Prop := ∃ dx, H p = some (.ins (He.ga K "Plan") dx (pF sv av pv))
def PlanAt (K : PySem.W.Frag) (H : Hp) (p : Addr) (s : Kv437.Stand) : Prop := ∃ sv av pv, PlanV K H p sv av pv ∧ Dq K H sv (nL (SA s)) ∧ Dq K H av (nL (AA s)) ∧ Dq K H pv (pL s.adjacency)
theorem lk_here {k : Str} {v : V} {r : List (Str × V)} : List.lookup k ((k, v) :: r) = some v := by
  have e : (k == k) = true := beq_self_eq_true k
  simp only [List.lookup, e]
theorem lk_past {k g : Str} {v : V} {r : List (Str × V)} (h : (k == g) = false) : List.lookup k ((g, v) :: r) = List.lookup k r := by
  simp only [List.lookup, h]
theorem put_here {f : Str} {v x : V} {r : List (Str × V)} : putF f v ((f, x) :: r) = (f, v) :: r := if_pos rfl
theorem put_past {f g : Str} {v x : V} {r : List (Str × V)} (h : ¬ g = f) : putF f v ((g, x) :: r) = (g, x) :: putF f v r := if_neg h
section
variable {K : PySem.W.Frag} {sv av pv y : V}
theorem lk_seats : (pF sv av pv).lookup ("seats" : Str) = some sv := lk_here
theorem lk_assignments : (pF sv av pv).lookup ("assignments" : Str) = some av := (lk_past (by decide +kernel)).trans lk_here
theorem lk_pairs : (pF sv av pv).lookup ("pairs" : Str) = some pv := (lk_past (by decide +kernel)).trans ((lk_past (by decide +kernel)).trans lk_here)
theorem lk_no {m : Str} (h : ((m == "seats") || (m == "assignments") || (m == "pairs")) = false) : (pF sv av pv).lookup m = none := by
  rw [Bool.or_eq_false_iff, Bool.or_eq_false_iff] at h
  exact (lk_past h.1.1).trans ((lk_past h.1.2).trans ((lk_past h.2).trans rfl))
theorem put_seats : putF "seats" y (pF sv av pv) = pF y av pv := put_here
theorem put_assignments : putF "assignments" y (pF sv av pv) = pF sv y pv := (put_past (by decide +kernel)).trans (congrArg _ put_here)
theorem put_pairs : putF "pairs" y (pF sv av pv) = pF sv av y := (put_past (by decide +kernel)).trans (congrArg _ ((put_past (by decide +kernel)).trans (congrArg _ put_here)))
variable {H H' : Hp} {p : Addr} {s : Kv437.Stand} {σ : L2.St} {ta tv : TE} {d : PyData} {D : Ends} {tz : TS} {tas : TA} {ds : List PyData} {m : Str}
theorem PlanV.mono (e : Ex H H') (h : PlanV K H p sv av pv) : PlanV K H' p sv av pv := by
  obtain ⟨dx, h⟩ := h
  exact ⟨dx, e _ _ h⟩
theorem PlanAt.mono (e : Ex H H') (h : PlanAt K H p s) : PlanAt K H' p s := by
  obtain ⟨sv, av, pv, h, a, b, c⟩ := h
  exact ⟨sv, av, pv, h.mono e, a.mono e, b.mono e, c.mono e⟩
theorem PlanV.kp (h : PlanV K H p sv av pv) (e : ExB p H H') : Kp H H' := by
  obtain ⟨dx, h⟩ := h
  exact e.kp h
theorem PlanAt.kp (h : PlanAt K H p s) (e : ExB p H H') : Kp H H' := by
  obtain ⟨sv, av, pv, h, _⟩ := h
  exact h.kp e
theorem ev_seats {mg : Str → Option Value} (T : Txt K mg) (ha : Ev ta σ H (.ref p)) (h : PlanV K H p sv av pv) : Ev (tFld K ta "seats") σ H sv := by
  obtain ⟨dx, h⟩ := h
  exact ev_fld ha h T.cls T.n_seats lk_seats
theorem ev_assignments {mg : Str → Option Value} (T : Txt K mg) (ha : Ev ta σ H (.ref p)) (h : PlanV K H p sv av pv) : Ev (tFld K ta "assignments") σ H av := by
  obtain ⟨dx, h⟩ := h
  exact ev_fld ha h T.cls T.n_assignments lk_assignments
theorem ev_pairs {mg : Str → Option Value} (T : Txt K mg) (ha : Ev ta σ H (.ref p)) (h : PlanV K H p sv av pv) : Ev (tFld K ta "pairs") σ H pv := by
  obtain ⟨dx, h⟩ := h
  exact ev_fld ha h T.cls T.n_pairs lk_pairs
/-- self.f = e: the others stand -/
theorem b_fld {f : Str} {mg : Str → Option Value} (gs ga gp : V → V) (T : Txt K mg) (hn : NoAttr K (He.ga K "Plan") f) (ha : Ev ta σ H (.ref p)) (h : PlanV K H p sv av pv) (hv : ED K tv σ H d)
    (hput : ∀ y, putF f y (pF sv av pv) = pF (gs y) (ga y) (gp y)) (k : ∀ v H1, ExB p H H1 → PlanV K H1 p (gs v) (ga v) (gp v) → Dq K H1 v d → D.nx σ H1) : sFld K ta tv f D σ H := by
  refine hv.go fun v H2 e2 hv2 => ?_
  refine ha H2 e2 _ fun H3 e3 => ?_
  obtain ⟨dx, h⟩ := h
  have h3 := (e2.trans e3) _ _ h
  refine ⟨p, _, dx, _, rfl, h3, T.cls, hn, by show 3 < 1000; decide, ?_⟩
  rw [hput]
  have eb : ExB p H (upd H3 p (.ins (He.ga K "Plan") dx (pF (gs v) (ga v) (gp v)))) := (Ex.exb (e2.trans e3)).trans exb_upd
  exact k v _ eb ⟨dx, upd_same⟩ (Dq.kp (exb_upd.kp h3) (hv2.mono e3))
theorem b_seats {mg : Str → Option Value} (T : Txt K mg) (ha : Ev ta σ H (.ref p)) (h : PlanV K H p sv av pv) (hv : ED K tv σ H d) (k : ∀ v H1, ExB p H H1 → PlanV K H1 p v av pv → Dq K H1 v d → D.nx σ H1) : sFld K ta tv "seats" D σ H :=
  b_fld (fun y => y) (fun _ => av) (fun _ => pv) T T.n_seats ha h hv (fun _ => put_seats) k
theorem b_assignments {mg : Str → Option Value} (T : Txt K mg) (ha : Ev ta σ H (.ref p)) (h : PlanV K H p sv av pv) (hv : ED K tv σ H d) (k : ∀ v H1, ExB p H H1 → PlanV K H1 p sv v pv → Dq K H1 v d → D.nx σ H1) : sFld K ta tv "assignments" D σ H :=
  b_fld (fun _ => sv) (fun y => y) (fun _ => pv) T T.n_assignments ha h hv (fun _ => put_assignments) k
theorem b_pairs {mg : Str → Option Value} (T : Txt K mg) (ha : Ev ta σ H (.ref p)) (h : PlanV K H p sv av pv) (hv : ED K tv σ H d) (k : ∀ v H1, ExB p H H1 → PlanV K H1 p sv av v → Dq K H1 v d → D.nx σ H1) : sFld K ta tv "pairs" D σ H :=
  b_fld (fun _ => sv) (fun _ => av) (fun y => y) T T.n_pairs ha h hv (fun _ => put_pairs) k
/-- the promise of what reads the planner: R: its state, the other arguments, the answer -/
def spPl (K : PySem.W.Frag) (R : Kv437.Stand → List PyData → PyData → Prop) : Sp := fun vs H Q _ => ∃ p rest s ds d, vs = .ref p :: rest ∧ PlanAt K H p s ∧ DqAll K H rest ds ∧ R s ds d ∧ ∀ v H', Ex H H' → Dq K H' v d → Q v H'
/-- of what changes it -/
def spM (K : PySem.W.Frag) (R : Kv437.Stand → List PyData → Kv437.Stand → Prop) : Sp := fun vs H Q _ => ∃ p rest s ds s', vs = .ref p :: rest ∧ PlanAt K H p s ∧ DqAll K H rest ds ∧ R s ds s' ∧ ∀ H', ExB p H H' → PlanAt K H' p s' → Q .non H'
theorem ed_meth {R : Kv437.Stand → List PyData → PyData → Prop} (ha : Ev ta σ H (.ref p)) (hp : PlanAt K H p s) (h : EDA K tas σ H ds) (hR : R s ds d) (hm : ((m == "seats") || (m == "assignments") || (m == "pairs")) = false := by decide +kernel) :
    ED K (tMeth (He.ga K "Plan") m (spPl K R) [] E0 ta tas) σ H d := fun H1 e Q q => ha H1 e _ fun H2 e2 => by
  obtain ⟨sv, av, pv, ⟨dx, h0⟩, a, b, c⟩ := hp
  refine ⟨p, dx, _, rfl, (e.trans e2) _ _ h0, lk_no hm, ?_⟩
  refine h H2 (e.trans e2) _ fun vs H3 e3 hvs => ?_
  refine ⟨p, vs, s, ds, d, by rw [List.append_nil], PlanAt.mono ((e.trans e2).trans e3) ⟨sv, av, pv, ⟨dx, h0⟩, a, b, c⟩, hvs, hR, fun v H4 e4 hv => q v H4 ((e2.trans e3).trans e4) hv⟩
theorem ed_callPl {R : Kv437.Stand → List PyData → PyData → Prop} {E : XK} (ha : Ev ta σ H (.ref p)) (hp : PlanAt K H p s) (h : EDA K tas σ H ds) (hR : R s ds d) : ED K (tCall (spPl K R) [] E (tCons ta tas)) σ H d := fun H1 e Q q => ha H1 e _ fun H2 e2 =>
  h H2 (e.trans e2) _ fun vs H3 e3 hvs => ⟨p, vs, s, ds, d, by rw [List.append_nil], hp.mono ((e.trans e2).trans e3), hvs, hR, fun v H4 e4 hv => q v H4 ((e2.trans e3).trans e4) hv⟩
/-- a statement self.m(..) that changes it -/
theorem b_methM {R : Kv437.Stand → List PyData → Kv437.Stand → Prop} {s' : Kv437.Stand} (ha : Ev ta σ H (.ref p)) (hp : PlanAt K H p s) (h : EDA K tas σ H ds) (hR : R s ds s') (k : ∀ H1, ExB p H H1 → PlanAt K H1 p s' → tz D σ H1)
    (hm : ((m == "seats") || (m == "assignments") || (m == "pairs")) = false := by decide +kernel) : tSeq (tDrop (tMeth (He.ga K "Plan") m (spM K R) [] E0 ta tas)) tz D σ H := ha H (Ex.refl H) _ fun H2 e2 => by
  obtain ⟨sv, av, pv, ⟨dx, h0⟩, a, b, c⟩ := hp
  refine ⟨p, dx, _, rfl, e2 _ _ h0, lk_no hm, ?_⟩
  refine h H2 e2 _ fun vs H3 e3 hvs => ?_
  exact ⟨p, vs, s, ds, s', by rw [List.append_nil], PlanAt.mono (e2.trans e3) ⟨sv, av, pv, ⟨dx, h0⟩, a, b, c⟩, hvs, hR, fun H4 e4 h4 => k H4 ((Ex.exb (e2.trans e3)).trans e4) h4⟩
end
section
variable {P : Program} {w : World} {K : PySem.W.Frag} {mg : Str → Option Value} {base : Heap}
theorem okPl {x : Str} {st : Stmt} {N ps : List Str} {k : Nat} {R : Kv437.Stand → List PyData → PyData → Prop} (D : Df K mg x st) (S : FnScope N ps (defScope st)) (len : ∀ s ds d, R s ds d → ds.length + 1 = ps.length)
    (bind : ∀ (kV doc pm : Value) (an : Option Addr) (cdv ct : Value) (us : List Value), us.length = ps.length → bindArgs (PySem.W.fnOf x x (defArgs st) (defBody st) (defScope st) .none kV doc pm an cdv ct) ⟨us, []⟩ = pure (ps.zip us))
    (hbody : ∀ (f : Addr) (cdv : Value) (A : Around) (outer : List Env) (sh : Shared) (H : Hp) (p : Addr) (vs : List V) (s : Kv437.Stand) (ds : List PyData) (d : PyData) (E : XK), Room k (A.deeper (envOfC x (defScope st) sh.heap.objs.size f cdv)) → PlanAt K H p s → DqAll K H vs ds → R s ds d →
      ∃ t, PSs (cxOf CX0 P w K mg base N x (defScope st) f cdv A outer sh H E).nox (defBody st) t ∧ ∀ Q : VK, (∀ v H', Ex H H' → Dq K H' v d → Q v H') → t { nx := fun _ H' => Q .non H', rt := Q } (start N (.ref p :: vs)) H) : OkF P w K mg base (k + 1) x ps (spPl K R) := by
  refine okF D S (fun vs H Q E h => ?_) bind fun f cdv A outer sh H vs Q E hr h => ?_
  · obtain ⟨p, rest, s, ds, d, rfl, hp, hd, hR, _⟩ := h
    have := len s ds d hR
    rw [List.length_cons, hd.len]
    exact this
  · obtain ⟨p, rest, s, ds, d, rfl, hp, hd, hR, q⟩ := h
    obtain ⟨t, ht, hq⟩ := hbody f cdv A outer sh H p rest s ds d E hr hp hd hR
    exact ⟨t, ht, hq Q q⟩
theorem okMPl {m qual : Str} {st : Stmt} {N ps : List Str} {k : Nat} {R : Kv437.Stand → List PyData → PyData → Prop} (D : Dm K m qual st) (S : FnScope N ps (defScope st)) (len : ∀ s ds d, R s ds d → ds.length + 1 = ps.length)
    (bind : ∀ (kV doc pm : Value) (an : Option Addr) (cdv ct : Value) (us : List Value), us.length = ps.length → bindArgs (PySem.W.fnOf m qual (defArgs st) (defBody st) (defScope st) .none kV doc pm an cdv ct) ⟨us, []⟩ = pure (ps.zip us))
    (hbody : ∀ (f : Addr) (cdv : Value) (A : Around) (outer : List Env) (sh : Shared) (H : Hp) (p : Addr) (vs : List V) (s : Kv437.Stand) (ds : List PyData) (d : PyData) (E : XK), Room k (A.deeper (envOfC qual (defScope st) sh.heap.objs.size f cdv)) → PlanAt K H p s → DqAll K H vs ds → R s ds d →
      ∃ t, PSs (cxOf CX0 P w K mg base N qual (defScope st) f cdv A outer sh H E).nox (defBody st) t ∧ ∀ Q : VK, (∀ v H', Ex H H' → Dq K H' v d → Q v H') → t { nx := fun _ H' => Q .non H', rt := Q } (start N (.ref p :: vs)) H) : OkM P w K mg base (k + 1) m ps (spPl K R) := by
  refine okM D S (fun vs H Q E h => ?_) bind fun f cdv A outer sh H vs Q E hr h => ?_
  · obtain ⟨p, rest, s, ds, d, rfl, hp, hd, hR, _⟩ := h
    have := len s ds d hR
    rw [List.length_cons, hd.len]
    exact this
  · obtain ⟨p, rest, s, ds, d, rfl, hp, hd, hR, q⟩ := h
    obtain ⟨t, ht, hq⟩ := hbody f cdv A outer sh H p rest s ds d E hr hp hd hR
    exact ⟨t, ht, hq Q q⟩
theorem okMM {m qual : Str} {st : Stmt} {N ps : List Str} {k : Nat} {R : Kv437.Stand → List PyData → Kv437.Stand → Prop} (D : Dm K m qual st) (S : FnScope N ps (defScope st)) (len : ∀ s ds d, R s ds d → ds.length + 1 = ps.length)
    (bind : ∀ (kV doc pm : Value) (an : Option Addr) (cdv ct : Value) (us : List Value), us.length = ps.length → bindArgs (PySem.W.fnOf m qual (defArgs st) (defBody st) (defScope st) .none kV doc pm an cdv ct) ⟨us, []⟩ = pure (ps.zip us))
    (hbody : ∀ (f : Addr) (cdv : Value) (A : Around) (outer : List Env) (sh : Shared) (H : Hp) (p : Addr) (vs : List V) (s s' : Kv437.Stand) (ds : List PyData) (E : XK), Room k (A.deeper (envOfC qual (defScope st) sh.heap.objs.size f cdv)) → PlanAt K H p s → DqAll K H vs ds → R s ds s' →
      ∃ t, PSs (cxOf CX0 P w K mg base N qual (defScope st) f cdv A outer sh H E).nox (defBody st) t ∧ ∀ Q : VK, (∀ H', ExB p H H' → PlanAt K H' p s' → Q .non H') → t { nx := fun _ H' => Q .non H', rt := Q } (start N (.ref p :: vs)) H) : OkM P w K mg base (k + 1) m ps (spM K R) := by
  refine okM D S (fun vs H Q E h => ?_) bind fun f cdv A outer sh H vs Q E hr h => ?_
  · obtain ⟨p, rest, s, ds, d, rfl, hp, hd, hR, _⟩ := h
    have := len s ds d hR
    rw [List.length_cons, hd.len]
    exact this
  · obtain ⟨p, rest, s, ds, d, rfl, hp, hd, hR, q⟩ := h
    obtain ⟨t, ht, hq⟩ := hbody f cdv A outer sh H p rest s d ds E hr hp hd hR
    exact ⟨t, ht, hq Q q⟩
end
end Sb
/-! ### I. the planner's methods -/
namespace Sb
open PySem PySem.Spec PyProof.Rows L2
open Evl (Ex Ev EvT EvL)
open Kv437 (Stand Block)
local macro_rules | `(tactic| walk_at "rd") => `(tactic| first | exact rd_add | exact rd_sub | exact rd_lt | exact rd_le | exact rd_gt | exact rd_ge | exact rd_eq | exact rd_ne | exact rd_ixL (j := 0) rfl | exact rd_ixL (j := 1) rfl)
local macro_rules | `(tactic| walk_at "ed") => `(tactic| first
  | exact ed_int | exact ed_bl
  | (refine' ed_var rfl ?h; (case h => assumption))
  | (refine' ed_op ?a ?b ?c; (case a => walk_at "ed"); (case b => walk_at "ed"); (case c => walk_at "rd"))
  | (refine' ed_cb ?a ?c; (case a => walk_at "ea"); (case c => first | exact rc_len | exact rc_min | exact rc_max | exact rc_list))
  | (refine' ed_notV ?a; walk_at "ed")
  | (refine' ed_tup ?a ?b; (case a => walk_at "ea"); (case b => simp))
  | (refine' ed_lst ?a ?b; (case a => walk_at "ea"); (case b => simp)))
local macro_rules | `(tactic| walk_at "ea") => `(tactic| first | exact ea_nil | (refine' ea_cons ?a ?b; (case a => walk_at "ed"); (case b => walk_at "ea")))
local macro_rules | `(tactic| walk_at "et") => `(tactic| first
  | (refine' et_not ?a; (case a => walk_at "et"))
  | (refine' et_t ?a; (case a => walk_at "ed"))
  | (refine' et_b ?a; (case a => walk_at "ed")))

/-! pairs as data -/
theorem pI_shape (z : Nat × Nat) : (pI z).canLay0 = true ∧ (pI z).depth = 1 := by
  constructor <;> simp [PyData.canLay0, PyData.canLayAll0, PyData.depth, PyData.depthAll]
theorem pIs_lay : ∀ zs : List (Nat × Nat), PyData.canLayAll0 (zs.map pI) = true
  | [] => by simp [PyData.canLayAll0]
  | z :: zs => by
    have h1 := (pI_shape z).1
    have h2 := pIs_lay zs
    simp only [List.map_cons, PyData.canLayAll0, Bool.and_eq_true]
    exact ⟨h1, h2⟩
theorem pIs_depth : ∀ zs : List (Nat × Nat), PyData.depthAll (zs.map pI) ≤ 1
  | [] => by simp [PyData.depthAll]
  | z :: zs => by
    have h1 := pIs_depth zs
    have h2 := (pI_shape z).2
    simp only [List.map_cons, PyData.depthAll]
    omega
theorem pI_shaped (z : Nat × Nat) : SeqAt.shaped (pI z) = true := by
  have h := (pI_shape z).2
  show ((pI z).canLay0 && decide ((pI z).depth ≤ 64)) = true
  rw [Bool.and_eq_true]
  exact ⟨(pI_shape z).1, decide_eq_true (by omega)⟩
theorem pL_shaped (zs : List (Nat × Nat)) : SeqAt.shaped (pL zs) = true := by
  have h1 := pIs_depth zs
  have h2 : PyData.depth (pL zs) ≤ 64 := by
    simp only [PyData.depth]
    omega
  show (PyData.canLay0 (pL zs) && decide (PyData.depth (pL zs) ≤ 64)) = true
  rw [Bool.and_eq_true]
  exact ⟨by simp only [PyData.canLay0]; exact pIs_lay zs, decide_eq_true h2⟩
theorem pI_eqv (z w : Nat × Nat) : PyData.eqv (pI z) (pI w) = decide (z = w) := by
  obtain ⟨a, b⟩ := z
  obtain ⟨a', b'⟩ := w
  have e : PyData.eqv (pI (a, b)) (pI (a', b')) = (((a : Int) == (a' : Int)) && (((b : Int) == (b' : Int)) && true)) := by simp only [PyData.eqv, PyData.eqvAll]
  rw [e]
  by_cases h1 : a = a'
  · by_cases h2 : b = b'
    · subst h1 h2
      simp
    · have q : ((b : Int) == (b' : Int)) = false := beq_eq_false_iff_ne.mpr (by omega)
      rw [q, decide_eq_false fun z => h2 (Prod.mk.inj z).2]
      simp
  · have q : ((a : Int) == (a' : Int)) = false := beq_eq_false_iff_ne.mpr (by omega)
    rw [q, decide_eq_false fun z => h1 (Prod.mk.inj z).1]
    simp
/-- what the sizes allow -/
def Big (s : Stand) : Prop := s.blocks.length ≤ 1000 ∧ s.adjacency.length ≤ 1000
section
variable {P : Program} {w : World} {K : PySem.W.Frag} {mg : Str → Option Value} {base : Heap}
theorem sa_len (s : Stand) : ((SA s).map nI).length = s.blocks.length := by rw [List.length_map, List.length_map]
theorem aa_len (s : Stand) : ((AA s).map nI).length = s.blocks.length := by rw [List.length_map, List.length_map]
/-! __init__ -/
def spInit (K : PySem.W.Frag) : Sp := fun vs H Q _ => ∃ p dx, vs = [.ref p] ∧ H p = some (.ins (He.ga K "Plan") dx []) ∧ ∀ H', ExB p H H' → PlanAt K H' p ⟨[], []⟩ → Q .non H'
theorem sc_m_init : FnScope ["self"] ["self"] (defScope s_m_init) := ⟨rfl, rfl, rfl, by decide +kernel, rfl, by decide +kernel, by decide +kernel⟩
theorem m_init (T : Txt K mg) : OkM P w K mg base 1 "__init__" ["self"] (spInit K) := by
  refine okM T.d_m_init sc_m_init (fun vs H Q E h => by obtain ⟨p, dx, rfl, _⟩ := h; rfl) (fun _ _ _ _ _ _ us hl => match us, hl with | [_], _ => rfl) fun f cdv A outer s H vs Q E hr h => ?_
  obtain ⟨p, dx, rfl, hp, q⟩ := h
  refine ⟨_, (pss_cons (ps_fld (pv 0) (pe_lst pa_nil) rfl)
    (pss_cons (ps_fld (pv 0) (pe_lst pa_nil) rfl)
    (pss_one (ps_fld (pv 0) (pe_lst pa_nil) rfl)))), ?_⟩
  refine ⟨by decide, fun a1 n1 => ?_⟩
  have k1 := Evl.Ex.new (o := .lst []) n1 _ _ hp
  refine ⟨.ref p, rfl, p, _, dx, [], rfl, k1, T.cls, T.n_seats, by decide, ?_⟩
  refine ⟨by decide, fun a2 n2 => ?_⟩
  have k2 := Evl.Ex.new (o := .lst []) n2 _ _ (upd_same (H := upd H a1 (.lst [])) (a := p) (o := .ins (He.ga K "Plan") dx (putF "seats" (.ref a1) [])))
  refine ⟨.ref p, rfl, p, _, dx, _, rfl, k2, T.cls, T.n_assignments, (by show 1 < 1000; decide), ?_⟩
  refine ⟨by decide, fun a3 n3 => ?_⟩
  have k3 := Evl.Ex.new (o := .lst []) n3 _ _ (upd_same (H := upd (upd (upd H a1 (.lst [])) p (.ins (He.ga K "Plan") dx (putF "seats" (.ref a1) []))) a2 (.lst [])) (a := p) (o := .ins (He.ga K "Plan") dx (putF "assignments" (.ref a2) (putF "seats" (.ref a1) []))))
  refine ⟨.ref p, rfl, p, _, dx, _, rfl, k3, T.cls, T.n_pairs, (by show 2 < 1000; decide), ?_⟩
  have d1 : p ≠ a1 := ne_of_none hp n1
  have d2 : p ≠ a2 := ne_of_none upd_same n2
  have d3 : p ≠ a3 := ne_of_none upd_same n3
  have e2 : a1 ≠ a2 := ne_of_none (by rw [upd_ne d1.symm]; exact upd_same) n2
  have e3 : a1 ≠ a3 := ne_of_none (by rw [upd_ne d1.symm, upd_ne e2, upd_ne d1.symm]; exact upd_same) n3
  have e4 : a2 ≠ a3 := ne_of_none (by rw [upd_ne d2.symm]; exact upd_same) n3
  refine q _ ?_ ⟨.ref a1, .ref a2, .ref a3, ⟨dx, ?_⟩, .lst (xs := []) ?_ .nil, .lst (xs := []) ?_ .nil, .lst (xs := []) ?_ .nil⟩
  · exact ((((((Ex.exb (Evl.Ex.new n1)).trans exb_upd).trans (Ex.exb (Evl.Ex.new n2))).trans exb_upd).trans (Ex.exb (Evl.Ex.new n3))).trans exb_upd)
  · rw [upd_same]
    refine congrArg (fun z => some (HO.ins (He.ga K "Plan") dx z)) ?_
    refine (put_past (by decide +kernel)).trans ?_
    refine congrArg _ ?_
    refine (put_past (by decide +kernel)).trans ?_
    rfl
  · rw [upd_ne d1.symm, upd_ne e3, upd_ne d1.symm, upd_ne e2, upd_ne d1.symm]
    exact upd_same
  · rw [upd_ne d2.symm, upd_ne e4, upd_ne d2.symm]
    exact upd_same
  · rw [upd_ne d3.symm]
    exact upd_same
/-! block_count -/
def R_block_count (s : Stand) (ds : List PyData) (d : PyData) : Prop := ds = [] ∧ d = nI s.blocks.length
theorem sc_m_block_count : FnScope ["self"] ["self"] (defScope s_m_block_count) := ⟨rfl, rfl, rfl, by decide +kernel, rfl, by decide +kernel, by decide +kernel⟩
theorem m_block_count (T : Txt K mg) : OkM P w K mg base 1 "block_count" ["self"] (spPl K R_block_count) := by
  refine okMPl T.d_m_block_count sc_m_block_count (fun s ds d h => by obtain ⟨rfl, _⟩ := h; rfl) (fun _ _ _ _ _ _ us hl => match us, hl with | [_], _ => rfl) fun f cdv A outer sh H p vs s ds d E hr hp hd hR => ?_
  obtain ⟨rfl, rfl⟩ := hR
  cases hd
  obtain ⟨sv, av, cv, hV, h1, h2, h3⟩ := hp
  refine ⟨_, (pss_one (ps_ret (pe_callB call_len_seq (by rfl) T.b_len PySem.boot_len (pa_cons (pe_fld (pv 0) rfl) pa_nil)))), fun Q hq => ?_⟩
  exact b_ret (K := K) (Ex.refl H) (ed_is (ed_cb (ea_cons (ed_ev (ev_seats T (Evl.ev_var rfl) hV) h1) ea_nil) rc_len) (by rw [sa_len])) hq
/-! has_block -/
def R_has_block (s : Stand) (ds : List PyData) (d : PyData) : Prop := ∃ b : Nat, ds = [nI b] ∧ d = .bool (decide (b < s.blocks.length))
theorem sc_m_has_block : FnScope ["self", "block"] ["self", "block"] (defScope s_m_has_block) := ⟨rfl, rfl, rfl, by decide +kernel, rfl, by decide +kernel, by decide +kernel⟩
theorem m_has_block (T : Txt K mg) : OkM P w K mg base 1 "has_block" ["self", "block"] (spPl K R_has_block) := by
  refine okMPl T.d_m_has_block sc_m_has_block (fun s ds d h => by obtain ⟨b, rfl, _⟩ := h; rfl) (fun _ _ _ _ _ _ us hl => match us, hl with | [_, _], _ => rfl) fun f cdv A outer sh H p vs s ds d E hr hp hd hR => ?_
  obtain ⟨b, rfl, rfl⟩ := hR
  obtain ⟨x, rfl, hx⟩ := hd.one
  obtain ⟨sv, av, cv, hV, h1, h2, h3⟩ := hp
  refine ⟨_, (pss_one (ps_ret (pe_chain op_le op_lt pe_int (pv 1) (pe_callB call_len_seq (by rfl) T.b_len PySem.boot_len (pa_cons (pe_fld (pv 0) rfl) pa_nil))))), fun Q hq => ?_⟩
  refine b_ret (K := K) (Ex.refl H) (ed_is (ed_chain ed_int (by walk_at "ed") rd_le (fun _ => ed_cb (ea_cons (ed_ev (ev_seats T (Evl.ev_var rfl) hV) h1) ea_nil) rc_len) fun _ => rd_lt) ?_) hq
  rw [sa_len, decide_eq_true (show (0 : Int) ≤ (b : Int) by omega), Bool.true_and]
  congr 1
  exact decide_eq_decide.mpr (by omega)
/-! are_adjacent -/
def adj (s : Stand) (i j : Nat) : Bool := s.adjacency.any fun z => decide (z = (min i j, max i j))
def R_are_adjacent (s : Stand) (ds : List PyData) (d : PyData) : Prop := ∃ i j : Nat, ds = [nI i, nI j] ∧ d = .bool (adj s i j)
theorem sc_m_are_adjacent : FnScope ["self", "one", "other"] ["self", "one", "other"] (defScope s_m_are_adjacent) := ⟨rfl, rfl, rfl, by decide +kernel, rfl, by decide +kernel, by decide +kernel⟩
theorem m_are_adjacent (T : Txt K mg) : OkM P w K mg base 2 "are_adjacent" ["self", "one", "other"] (spPl K R_are_adjacent) := by
  refine okMPl T.d_m_are_adjacent sc_m_are_adjacent (fun s ds d h => by obtain ⟨i, j, rfl, _⟩ := h; rfl) (fun _ _ _ _ _ _ us hl => match us, hl with | [_, _, _], _ => rfl) fun f cdv A outer sh H p vs s ds d E hr hp hd hR => ?_
  obtain ⟨i, j, rfl, rfl⟩ := hR
  obtain ⟨x, y, rfl, hx, hy⟩ := hd.two
  obtain ⟨sv, av, cv, hV, h1, h2, h3⟩ := hp
  refine ⟨_, (pss_one (ps_ret (pe_cmpR (r := rInD K) (op_inD (hu65 hr)) (pe_callF (f_pair_of T) (hr.mono (by decide)) rfl (pa_cons (pv 1) (pa_cons (pv 2) pa_nil))) (pe_fld (pv 0) rfl) (by rfl)))), fun Q hq => ?_⟩
  refine b_ret (K := K) (Ex.refl H) (ed_is (ed_op (ed_call (by walk_at "ea") ⟨i, j, rfl, rfl⟩) (ed_ev (ev_pairs T (Evl.ev_var rfl) hV) h3) (rd_inD (pI_shaped _) (pL_shaped _))) ?_) hq
  rw [List.any_map]
  unfold adj
  congr 2
  funext z
  exact pI_eqv z _
/-! add_block -/
def R_add_block (s : Stand) (ds : List PyData) (s' : Stand) : Prop := ∃ n : Nat, Big s ∧ ds = [nI n] ∧ s' = { s with blocks := s.blocks ++ [⟨n, 0⟩] }
theorem sc_m_add_block : FnScope ["self", "seats"] ["self", "seats"] (defScope s_m_add_block) := ⟨rfl, rfl, rfl, by decide +kernel, rfl, by decide +kernel, by decide +kernel⟩
theorem m_add_block (T : Txt K mg) : OkM P w K mg base 1 "add_block" ["self", "seats"] (spM K R_add_block) := by
  refine okMM T.d_m_add_block sc_m_add_block (fun s ds d h => by obtain ⟨b, _, rfl, _⟩ := h; rfl) (fun _ _ _ _ _ _ us hl => match us, hl with | [_, _], _ => rfl) fun f cdv A outer sh H p vs s s' ds E hr hp hd hR => ?_
  obtain ⟨n, ⟨z1, z2⟩, rfl, rfl⟩ := hR
  obtain ⟨x, rfl, hx⟩ := hd.one
  obtain ⟨sv, av, cv, hV, h1, h2, h3⟩ := hp
  refine ⟨_, (pss_cons (ps_fld (pv 0) (pe_op op_cat (pe_fld (pv 0) rfl) (pe_lst (pa_cons (pv 1) pa_nil))) rfl)
    (pss_one (ps_fld (pv 0) (pe_op op_cat (pe_fld (pv 0) rfl) (pe_lst (pa_cons (pe_gi rfl T.i_ANY_USE) pa_nil))) rfl))), fun Q hq => ?_⟩
  refine b_seats T (Evl.ev_var rfl) hV (ed_op (ed_ev (ev_seats T (Evl.ev_var rfl) hV) h1) (by walk_at "ed") (rd_cat ?_)) fun v1 H1 e1 hV1 g1 => ?_
  · rw [sa_len]
    exact Nat.le_trans (Nat.add_le_add_right z1 1) (by decide)
  have k1 := hV.kp e1
  refine b_assignments T (Evl.ev_var rfl) hV1 (ed_op (ed_ev (ev_assignments T (Evl.ev_var rfl) hV1) (h2.kp k1)) (by walk_at "ed") (rd_cat ?_)) fun v2 H2 e2 hV2 g2 => ?_
  · rw [aa_len]
    exact Nat.le_trans (Nat.add_le_add_right z1 1) (by decide)
  have k2 := hV1.kp e2
  refine hq H2 (e1.trans e2) ⟨v1, v2, cv, hV2, ?_, ?_, (h3.kp k1).kp k2⟩
  · show Dq K H2 v1 (.list (((s.blocks ++ ([⟨n, 0⟩] : List Block)).map (fun b : Block => b.seats)).map nI))
    rw [List.map_append, List.map_append]
    exact g1.kp k2
  · show Dq K H2 v2 (.list (((s.blocks ++ ([⟨n, 0⟩] : List Block)).map (fun b : Block => b.assignment)).map nI))
    rw [List.map_append, List.map_append]
    exact g2
/-! remove_last_block -/
def R_remove_last_block (s : Stand) (ds : List PyData) (s' : Stand) : Prop := Big s ∧ 0 < s.blocks.length ∧ ds = [] ∧ s' = ⟨s.blocks.dropLast, s.adjacency.filter fun pr => pr.2 != s.blocks.length - 1⟩
theorem sc_m_remove_last_block : FnScope ["self", "last", "pair"] ["self"] (defScope s_m_remove_last_block) := ⟨rfl, rfl, rfl, by decide +kernel, rfl, by decide +kernel, by decide +kernel⟩
theorem m_remove_last_block (T : Txt K mg) : OkM P w K mg base 1 "remove_last_block" ["self"] (spM K R_remove_last_block) := by
  refine okMM T.d_m_remove_last_block sc_m_remove_last_block (fun s ds d h => by obtain ⟨_, _, rfl, _⟩ := h; rfl) (fun _ _ _ _ _ _ us hl => match us, hl with | [_], _ => rfl) fun f cdv A outer sh H p vs s s' ds E hr hp hd hR => ?_
  obtain ⟨⟨z1, z2⟩, z3, rfl, rfl⟩ := hR
  cases hd
  obtain ⟨sv, av, cv, hV, h1, h2, h3⟩ := hp
  refine ⟨_, (pss_cons (ps_set (i := 1) sc_m_remove_last_block.nd rfl (Or.inr rfl) (pe_op op_sub (pe_callB call_len_seq (by rfl) T.b_len PySem.boot_len (pa_cons (pe_fld (pv 0) rfl) pa_nil)) pe_int))
    (pss_cons (ps_fld (pv 0) (pe_slice sl_list (pe_fld (pv 0) rfl) po_none (po_some (pv 1))) rfl)
    (pss_cons (ps_fld (pv 0) (pe_slice sl_list (pe_fld (pv 0) rfl) po_none (po_some (pv 1))) rfl)
    (pss_one (ps_fld (pv 0) (pe_lc (own := [("pair", 2)]) rfl sc_m_remove_last_block.nd (pi_list (pe_fld (pv 0) rfl)) (blkOk_by (own := [("pair", 2)]) (N := ["self", "last", "pair"]) (sc := defScope s_m_remove_last_block) (by decide +kernel)) (fun _ _ _ _ _ => by exact (pg_name (i := 2) sc_m_remove_last_block.nd rfl (Or.inl rfl))) (fun _ _ _ _ _ => by exact (pts_one (pt_cmpR op_ne (pe_ix (r := rIxT K) ix_tup (pv 2) pe_int (fun _ _ => rfl)) (pv 1) (nomark _)))) (fun _ _ _ _ _ => by exact (pv 2))) rfl))))), fun Q hq => ?_⟩
  have el : ((s.blocks.length : Int) - 1) = ((s.blocks.length - 1 : Nat) : Int) := by omega
  refine b_set (K := K) (d := nI (s.blocks.length - 1)) (Ex.refl H) (ed_is (ed_op (ed_cb (ea_cons (ed_ev (ev_seats T (Evl.ev_var rfl) hV) h1) ea_nil) rc_len) ed_int rd_sub) ?_) fun vl H0 e0 hl => ?_
  · rw [sa_len, el]
  replace hV := hV.mono e0
  replace h1 := h1.mono e0
  replace h2 := h2.mono e0
  replace h3 := h3.mono e0
  refine b_seats T (Evl.ev_var rfl) hV (ed_slice (ed_ev (ev_seats T (Evl.ev_var rfl) hV) h1) eo_none (eo_some (by walk_at "ed"))) fun v1 H1 e1 hV1 g1 => ?_
  have k1 := hV.kp e1
  have hl1 := hl.kp k1
  refine b_assignments T (Evl.ev_var rfl) hV1 (ed_slice (ed_ev (ev_assignments T (Evl.ev_var rfl) hV1) (h2.kp k1)) eo_none (eo_some (by walk_at "ed"))) fun v2 H2 e2 hV2 g2 => ?_
  have k2 := hV1.kp e2
  have hl2 := hl1.kp k2
  refine b_pairs T (Evl.ev_var rfl) hV2 (ed_lcI (c := pI) (l := s.adjacency) (fun pr => pr.2 != s.blocks.length - 1) (ed_ev (ev_pairs T (Evl.ev_var rfl) hV2) ((h3.kp k1).kp k2)) (Nat.le_trans z2 (by decide)) (fun _ => rfl) (fun _ => rfl) fun pr hpr x H4 e4 hx => ?_) fun v3 H3 e3 hV3 g3 => ?_
  · refine et_is (et_t (ed_op (ed_op (ed_var rfl hx) ed_int (rd_ixT (j := 1) rfl)) (ed_var rfl (hl2.mono e4)) rd_ne)) ?_
    rw [ni_eq]
    cases h : (pr.2 != s.blocks.length - 1)
    · rw [decide_eq_true (by simpa using h)]
      rfl
    · rw [decide_eq_false (by simpa using h)]
      rfl
  have k3 := hV2.kp e3
  refine hq H3 ((((Ex.exb e0).trans e1).trans e2).trans e3) ⟨v1, v2, v3, hV3, ?_, ?_, g3⟩
  · have := (g1.kp k2).kp k3
    rw [cutD_to _ (by rw [sa_len]; omega), ← List.map_take, ← List.map_take, ← List.dropLast_eq_take] at this
    exact this
  · have := g2.kp k3
    rw [cutD_to _ (by rw [aa_len]; omega), ← List.map_take, ← List.map_take, ← List.dropLast_eq_take] at this
    exact this
/-! use_seats -/
def withSeats (s : Stand) (i n : Nat) : Stand := { s with blocks := s.blocks.modify i fun block => { block with seats := n } }
def R_use_seats (s : Stand) (ds : List PyData) (s' : Stand) : Prop := ∃ i n : Nat, Big s ∧ i < s.blocks.length ∧ ds = [nI i, nI n] ∧ s' = withSeats s i n
theorem map_mod_set {α β : Type} (f : α → β) (g : α → α) (y : β) (hg : ∀ a, f (g a) = y) : ∀ (l : List α) (i : Nat), (l.modify i g).map f = (l.map f).set i y
  | [], i => by cases i <;> rfl
  | a :: r, 0 => by simp [hg]
  | a :: r, i + 1 => by
    have ih := map_mod_set f g y hg r i
    simp [ih]
theorem map_mod_same {α β : Type} (f : α → β) (g : α → α) (hg : ∀ a, f (g a) = f a) : ∀ (l : List α) (i : Nat), (l.modify i g).map f = l.map f
  | [], i => by cases i <;> rfl
  | a :: r, 0 => by simp [hg]
  | a :: r, i + 1 => by
    have ih := map_mod_same f g hg r i
    simp [ih]
theorem sc_m_use_seats : FnScope ["self", "block", "seats"] ["self", "block", "seats"] (defScope s_m_use_seats) := ⟨rfl, rfl, rfl, by decide +kernel, rfl, by decide +kernel, by decide +kernel⟩
theorem m_use_seats (T : Txt K mg) : OkM P w K mg base 2 "use_seats" ["self", "block", "seats"] (spM K R_use_seats) := by
  refine okMM T.d_m_use_seats sc_m_use_seats (fun s ds d h => by obtain ⟨_, _, _, _, rfl, _⟩ := h; rfl) (fun _ _ _ _ _ _ us hl => match us, hl with | [_, _, _], _ => rfl) fun f cdv A outer sh H p vs s s' ds E hr hp hd hR => ?_
  obtain ⟨i, n, ⟨z1, z2⟩, z3, rfl, rfl⟩ := hR
  obtain ⟨x, y, rfl, hx, hy⟩ := hd.two
  obtain ⟨sv, av, cv, hV, h1, h2, h3⟩ := hp
  refine ⟨_, (pss_one (ps_fld (pv 0) (pe_callF (f_with_item T) (hr.mono (by decide)) rfl (pa_cons (pe_fld (pv 0) rfl) (pa_cons (pv 1) (pa_cons (pv 2) pa_nil)))) rfl)), fun Q hq => ?_⟩
  refine b_seats T (Evl.ev_var rfl) hV (ed_call (ea_cons (ed_ev (ev_seats T (Evl.ev_var rfl) hV) h1) (by walk_at "ea")) ⟨SA s, i, n, by rw [List.length_map]; exact z3, by rw [List.length_map]; exact z1, rfl, rfl⟩) fun v1 H1 e1 hV1 g1 => ?_
  have k1 := hV.kp e1
  refine hq H1 e1 ⟨v1, av, cv, hV1, ?_, ?_, h3.kp k1⟩
  · show Dq K H1 v1 (nL ((s.blocks.modify i _).map _))
    rw [map_mod_set (fun b : Block => b.seats) _ n (fun _ => rfl)]
    exact g1
  · show Dq K H1 av (nL ((s.blocks.modify i _).map _))
    rw [map_mod_same (fun b : Block => b.assignment) (fun b : Block => { b with seats := n }) (fun _ => rfl)]
    exact h2.kp k1
/-! use_assignments -/
def withAs (s : Stand) (l : List Nat) : Stand := { s with blocks := (s.blocks.zip l).map fun q => { q.1 with assignment := q.2 } }
def R_use_assignments (s : Stand) (ds : List PyData) (s' : Stand) : Prop := ∃ l : List Nat, l.length = s.blocks.length ∧ ds = [nL l] ∧ s' = withAs s l
theorem withAs_seats (s : Stand) (l : List Nat) (h : l.length = s.blocks.length) : SA (withAs s l) = SA s := by
  show ((s.blocks.zip l).map _).map _ = s.blocks.map _
  rw [List.map_map]
  have : ((fun x : Block => x.seats) ∘ fun q : Block × Nat => ({ q.1 with assignment := q.2 } : Block)) = (fun x : Block => x.seats) ∘ Prod.fst := rfl
  rw [this, ← List.map_map, List.map_fst_zip (by omega)]
theorem withAs_as (s : Stand) (l : List Nat) (h : l.length = s.blocks.length) : AA (withAs s l) = l := by
  show ((s.blocks.zip l).map _).map _ = l
  rw [List.map_map]
  have : ((fun x : Block => x.assignment) ∘ fun q : Block × Nat => ({ q.1 with assignment := q.2 } : Block)) = Prod.snd := rfl
  rw [this, List.map_snd_zip (by omega)]
theorem sc_m_use_assignments : FnScope ["self", "assignments"] ["self", "assignments"] (defScope s_m_use_assignments) := ⟨rfl, rfl, rfl, by decide +kernel, rfl, by decide +kernel, by decide +kernel⟩
theorem m_use_assignments (T : Txt K mg) : OkM P w K mg base 1 "use_assignments" ["self", "assignments"] (spM K R_use_assignments) := by
  refine okMM T.d_m_use_assignments sc_m_use_assignments (fun s ds d h => by obtain ⟨_, _, rfl, _⟩ := h; rfl) (fun _ _ _ _ _ _ us hl => match us, hl with | [_, _], _ => rfl) fun f cdv A outer sh H p vs s s' ds E hr hp hd hR => ?_
  obtain ⟨l, z3, rfl, rfl⟩ := hR
  obtain ⟨x, rfl, hx⟩ := hd.one
  obtain ⟨sv, av, cv, hV, h1, h2, h3⟩ := hp
  refine ⟨_, (pss_one (ps_fld (pv 0) (pe_callTy call_list_of (by rfl) T.b_list (by decide +kernel) (pa_cons (pv 1) pa_nil)) rfl)), fun Q hq => ?_⟩
  refine b_assignments T (Evl.ev_var rfl) hV (ed_cb (by walk_at "ea") rc_list) fun v1 H1 e1 hV1 g1 => ?_
  have k1 := hV.kp e1
  refine hq H1 e1 ⟨sv, v1, cv, hV1, ?_, ?_, h3.kp k1⟩
  · rw [withAs_seats s l z3]
    exact h1.kp k1
  · rw [withAs_as s l z3]
    exact g1
/-! connect, disconnect -/
def R_connect (s : Stand) (ds : List PyData) (s' : Stand) : Prop := ∃ i j : Nat, Big s ∧ ds = [nI i, nI j] ∧ s' = { s with adjacency := s.adjacency ++ [(min i j, max i j)] }
theorem sc_m_connect : FnScope ["self", "one", "other"] ["self", "one", "other"] (defScope s_m_connect) := ⟨rfl, rfl, rfl, by decide +kernel, rfl, by decide +kernel, by decide +kernel⟩
theorem m_connect (T : Txt K mg) : OkM P w K mg base 2 "connect" ["self", "one", "other"] (spM K R_connect) := by
  refine okMM T.d_m_connect sc_m_connect (fun s ds d h => by obtain ⟨_, _, _, rfl, _⟩ := h; rfl) (fun _ _ _ _ _ _ us hl => match us, hl with | [_, _, _], _ => rfl) fun f cdv A outer sh H p vs s s' ds E hr hp hd hR => ?_
  obtain ⟨i, j, ⟨z1, z2⟩, rfl, rfl⟩ := hR
  obtain ⟨x, y, rfl, hx, hy⟩ := hd.two
  obtain ⟨sv, av, cv, hV, h1, h2, h3⟩ := hp
  refine ⟨_, (pss_one (ps_fld (pv 0) (pe_op op_cat (pe_fld (pv 0) rfl) (pe_lst (pa_cons (pe_callF (f_pair_of T) (hr.mono (by decide)) rfl (pa_cons (pv 1) (pa_cons (pv 2) pa_nil))) pa_nil))) rfl)), fun Q hq => ?_⟩
  refine b_pairs T (Evl.ev_var rfl) hV (ed_op (ed_ev (ev_pairs T (Evl.ev_var rfl) hV) h3) (ed_lst (ea_cons (ed_call (by walk_at "ea") ⟨i, j, rfl, rfl⟩) ea_nil) (by show 1 ≤ 100000; decide)) (rd_cat ?_)) fun v1 H1 e1 hV1 g1 => ?_
  · rw [List.length_map]
    exact Nat.le_trans (Nat.add_le_add_right z2 1) (by decide)
  have k1 := hV.kp e1
  refine hq H1 e1 ⟨sv, av, v1, hV1, h1.kp k1, h2.kp k1, ?_⟩
  show Dq K H1 v1 (.list ((s.adjacency ++ [(min i j, max i j)]).map pI))
  rw [List.map_append]
  exact g1
def R_disconnect (s : Stand) (ds : List PyData) (s' : Stand) : Prop := ∃ i j : Nat, Big s ∧ ds = [nI i, nI j] ∧ s' = { s with adjacency := s.adjacency.filter fun pr => pr != (min i j, max i j) }
theorem sc_m_disconnect : FnScope ["self", "one", "other", "pair"] ["self", "one", "other"] (defScope s_m_disconnect) := ⟨rfl, rfl, rfl, by decide +kernel, rfl, by decide +kernel, by decide +kernel⟩
theorem m_disconnect (T : Txt K mg) : OkM P w K mg base 2 "disconnect" ["self", "one", "other"] (spM K R_disconnect) := by
  refine okMM T.d_m_disconnect sc_m_disconnect (fun s ds d h => by obtain ⟨_, _, _, rfl, _⟩ := h; rfl) (fun _ _ _ _ _ _ us hl => match us, hl with | [_, _, _], _ => rfl) fun f cdv A outer sh H p vs s s' ds E hr hp hd hR => ?_
  obtain ⟨i, j, ⟨z1, z2⟩, rfl, rfl⟩ := hR
  obtain ⟨x, y, rfl, hx, hy⟩ := hd.two
  obtain ⟨sv, av, cv, hV, h1, h2, h3⟩ := hp
  refine ⟨_, (pss_one (ps_fld (pv 0) (pe_lc (own := [("pair", 3)]) rfl sc_m_disconnect.nd (pi_list (pe_fld (pv 0) rfl)) (blkOk_by (own := [("pair", 3)]) (N := ["self", "one", "other", "pair"]) (sc := defScope s_m_disconnect) (by decide +kernel)) (fun _ _ _ _ _ => by exact (pg_name (i := 3) sc_m_disconnect.nd rfl (Or.inl rfl))) (fun _ _ _ _ _ => by exact (pts_one (pt_cmpR (r := rNeD K) (op_neD hr.units) (pv 3) (pe_callF (f_pair_of T) (hr.mono (by decide)) rfl (pa_cons (pv 1) (pa_cons (pv 2) pa_nil))) (nomark _)))) (fun _ _ _ _ _ => by exact (pv 3))) rfl)), fun Q hq => ?_⟩
  refine b_pairs T (Evl.ev_var rfl) hV (ed_lcI (c := pI) (l := s.adjacency) (fun pr => pr != (min i j, max i j)) (ed_ev (ev_pairs T (Evl.ev_var rfl) hV) h3) (Nat.le_trans z2 (by decide)) (fun _ => rfl) (fun _ => rfl) fun pr hpr x H4 e4 hx4 => ?_) fun v1 H1 e1 hV1 g1 => ?_
  · refine et_is (et_t (ed_op (ed_var rfl hx4) (ed_call (ea_cons (ed_var rfl (hx.mono e4)) (ea_cons (ed_var rfl (hy.mono e4)) ea_nil)) ⟨i, j, rfl, rfl⟩) (rd_neD (pI_shaped _) (pI_shaped _)))) ?_
    rw [pI_eqv]
    cases h : (pr != (min i j, max i j))
    · rw [decide_eq_true (by simpa using h)]
      rfl
    · rw [decide_eq_false (by simpa using h)]
      rfl
  have k1 := hV.kp e1
  exact hq H1 e1 ⟨sv, av, v1, hV1, h1.kp k1, h2.kp k1, g1⟩
/-! swap_teams -/
def swapS (s : Stand) : Stand := { s with blocks := s.blocks.map fun block => { block with assignment := swapA block.assignment } }
def R_swap_teams (s : Stand) (ds : List PyData) (s' : Stand) : Prop := Big s ∧ ds = [] ∧ s' = swapS s
theorem sc_m_swap_teams : FnScope ["self", "assignment"] ["self"] (defScope s_m_swap_teams) := ⟨rfl, rfl, rfl, by decide +kernel, rfl, by decide +kernel, by decide +kernel⟩
theorem m_swap_teams (T : Txt K mg) : OkM P w K mg base 2 "swap_teams" ["self"] (spM K R_swap_teams) := by
  refine okMM T.d_m_swap_teams sc_m_swap_teams (fun s ds d h => by obtain ⟨_, rfl, _⟩ := h; rfl) (fun _ _ _ _ _ _ us hl => match us, hl with | [_], _ => rfl) fun f cdv A outer sh H p vs s s' ds E hr hp hd hR => ?_
  obtain ⟨⟨z1, z2⟩, rfl, rfl⟩ := hR
  cases hd
  obtain ⟨sv, av, cv, hV, h1, h2, h3⟩ := hp
  refine ⟨_, (pss_one (ps_fld (pv 0) (pe_lc (own := [("assignment", 1)]) rfl sc_m_swap_teams.nd (pi_list (pe_fld (pv 0) rfl)) (blkOk_by (own := [("assignment", 1)]) (N := ["self", "assignment"]) (sc := defScope s_m_swap_teams) (by decide +kernel)) (fun _ _ _ _ _ => by exact (pg_name (i := 1) sc_m_swap_teams.nd rfl (Or.inl rfl))) (fun _ _ _ _ _ => by exact pts_nil) (fun _ _ _ _ _ => by exact (pe_callF (f_swapped T) (hr.mono (by decide)) rfl (pa_cons (pv 1) pa_nil)))) rfl)), fun Q hq => ?_⟩
  refine b_assignments T (Evl.ev_var rfl) hV (ed_lcM (l := AA s) (c := nI) (fun a => nI (swapA a)) (wd_list (ed_ev (ev_assignments T (Evl.ev_var rfl) hV) h2)) ?_ fun a ha x H4 e4 hx => ⟨_, fun Q q => q, rfl, rfl, ed_call (by walk_at "ea") ⟨a, rfl, rfl⟩⟩) fun v1 H1 e1 hV1 g1 => ?_
  · rw [List.length_map]
    exact Nat.le_trans z1 (by decide)
  have k1 := hV.kp e1
  refine hq H1 e1 ⟨sv, v1, cv, hV1, ?_, ?_, h3.kp k1⟩
  · have : SA (swapS s) = SA s := by
      show (s.blocks.map _).map _ = _
      rw [List.map_map]
      rfl
    rw [this]
    exact h1.kp k1
  · have : (AA (swapS s)).map nI = (AA s).map fun a => nI (swapA a) := by
      show ((s.blocks.map _).map _).map _ = (s.blocks.map _).map _
      rw [List.map_map, List.map_map, List.map_map]
      rfl
    show Dq K H1 v1 (.list _)
    rw [this]
    exact g1
end
end Sb
/-! ### J. the plain law -/
namespace Sb
open Kv437 (Stand Block)
/-- what holds of the planner's state between the calls -/
structure Ok (s : Stand) : Prop where
  n6 : s.blocks.length ≤ 6
  bl : ∀ b ∈ s.blocks, b.seats ≤ 99 ∧ b.assignment ≤ 3
  ad : ∀ p ∈ s.adjacency, p.1 < p.2 ∧ p.2 < s.blocks.length
  nd : s.adjacency.Nodup
theorem nodup_len {α : Type} [DecidableEq α] : ∀ (l r : List α), l.Nodup → (∀ x ∈ l, x ∈ r) → l.length ≤ r.length
  | [], r, _, _ => Nat.zero_le _
  | a :: l, r, h, hs => by
    obtain ⟨h1, h2⟩ := List.nodup_cons.mp h
    have ha := hs a (List.mem_cons_self ..)
    have ih := nodup_len l (r.erase a) h2 fun x hx => by
      have hne : x ≠ a := fun z => h1 (z ▸ hx)
      exact (List.mem_erase_of_ne hne).mpr (hs x (List.mem_cons_of_mem _ hx))
    rw [List.length_erase_of_mem ha] at ih
    have hp : 0 < r.length := List.length_pos_of_mem ha
    rw [List.length_cons]
    omega
theorem Ok.adj_len {s : Stand} (h : Ok s) : s.adjacency.length ≤ 36 := by
  have := nodup_len s.adjacency ((List.range 6).flatMap fun i => (List.range 6).map fun j => (i, j)) h.nd fun p hp => by
    have h1 := h.ad p hp
    have h2 := h.n6
    refine List.mem_flatMap.mpr ⟨p.1, List.mem_range.mpr (by omega), List.mem_map.mpr ⟨p.2, List.mem_range.mpr (by omega), rfl⟩⟩
  exact Nat.le_trans this (by decide)
theorem Ok.big {s : Stand} (h : Ok s) : Big s := ⟨Nat.le_trans h.n6 (by decide), Nat.le_trans h.adj_len (by decide)⟩
theorem Ok.as3 {s : Stand} (h : Ok s) : ∀ a ∈ AA s, a ≤ 3 := fun a ha => by
  obtain ⟨b, hb, rfl⟩ := List.mem_map.mp ha
  exact (h.bl b hb).2
theorem Ok.nice {s : Stand} (h : Ok s) : Nice (SA s) (AA s) s.adjacency := by
  have n6 := h.n6
  refine ⟨by rw [List.length_map]; omega, by rw [List.length_map]; exact n6, h.as3, fun p hp => ?_, Nat.le_trans h.adj_len (by decide)⟩
  have := h.ad p hp
  rw [List.length_map]
  omega
/-! adjacency -/
theorem adj_spec {s : Stand} (h : Ok s) (i j : Nat) : s.areAdjacent i j = adj s i j := by
  unfold Kv437.Stand.areAdjacent adj
  rw [Bool.eq_iff_iff, List.any_eq_true, List.any_eq_true]
  constructor
  · rintro ⟨z, hz, e⟩
    refine ⟨z, hz, decide_eq_true ?_⟩
    have hl := (h.ad z hz).1
    rw [Bool.or_eq_true, Bool.and_eq_true, Bool.and_eq_true, beq_iff_eq, beq_iff_eq, beq_iff_eq, beq_iff_eq] at e
    rcases e with ⟨e1, e2⟩ | ⟨e1, e2⟩
    · exact Prod.ext (by show z.1 = min i j; omega) (by show z.2 = max i j; omega)
    · exact Prod.ext (by show z.1 = min i j; omega) (by show z.2 = max i j; omega)
  · rintro ⟨z, hz, e⟩
    refine ⟨z, hz, ?_⟩
    have e := of_decide_eq_true e
    have e1 : z.1 = min i j := congrArg Prod.fst e
    have e2 : z.2 = max i j := congrArg Prod.snd e
    rw [Bool.or_eq_true, Bool.and_eq_true, Bool.and_eq_true, beq_iff_eq, beq_iff_eq, beq_iff_eq, beq_iff_eq]
    omega
theorem last_spec {s : Stand} (h : Ok s) (hp : 0 < s.blocks.length) : (s.adjacency.filter fun pr => pr.1 != s.blocks.length - 1 && pr.2 != s.blocks.length - 1) = s.adjacency.filter fun pr => pr.2 != s.blocks.length - 1 := by
  refine List.filter_congr fun pr hpr => ?_
  have := h.ad pr hpr
  have e : (pr.1 != s.blocks.length - 1) = true := by simp; omega
  rw [e, Bool.true_and]
/-! sums over blocks -/
def wsum (ss al : List Nat) (sel : Nat → Bool) : Nat := (((ss.zip al).filter fun q => sel q.2).map (·.1)).sum
theorem sw_eq (ss al : List Nat) (u : Nat) : sw ss al u = wsum ss al fun v => v == u := rfl
theorem where_gen (sel : Nat → Bool) : ∀ (a : List Nat) (bl pre : List Block), a.length ≤ bl.length →
    (((a.zipIdx pre.length).filter fun q => sel q.1).map fun q => ((pre ++ bl).getD q.2 ⟨0, 0⟩).seats).sum = wsum (bl.map (·.seats)) a sel
  | [], bl, pre, _ => by simp [wsum]
  | x :: r, [], pre, h => by simp at h
  | x :: r, b :: bs, pre, h => by
    have ih := where_gen sel r bs (pre ++ [b]) (by simpa using h)
    rw [List.length_append, List.append_assoc] at ih
    have e1 : pre ++ ([b] ++ bs) = pre ++ b :: bs := rfl
    rw [e1] at ih
    have hg : ((pre ++ b :: bs).getD pre.length ⟨0, 0⟩) = b := by simp [List.getD_eq_getElem?_getD]
    rw [List.zipIdx_cons, List.filter_cons]
    unfold wsum at ih ⊢
    rw [List.map_cons, List.zip_cons_cons, List.filter_cons]
    by_cases hs : sel x = true
    · rw [if_pos hs, if_pos hs, List.map_cons, List.sum_cons, List.map_cons, List.sum_cons]
      show ((pre ++ b :: bs).getD pre.length ⟨0, 0⟩).seats + _ = _
      rw [hg]
      exact congrArg _ ih
    · rw [if_neg hs, if_neg hs]
      exact ih
theorem where_eq (s : Stand) (a : List Nat) (sel : Nat → Bool) (h : a.length ≤ s.blocks.length) : s.seatsWhere a sel = wsum (SA s) a sel := by
  have := where_gen sel a s.blocks [] h
  exact this
theorem wsum_cons (x u : Nat) (ss al : List Nat) (sel : Nat → Bool) : wsum (x :: ss) (u :: al) sel = (if sel u = true then x else 0) + wsum ss al sel := by
  unfold wsum
  rw [List.zip_cons_cons, List.filter_cons]
  by_cases h : sel u = true
  · rw [if_pos h, if_pos h, List.map_cons, List.sum_cons]
  · rw [if_neg h, if_neg h, Nat.zero_add]
theorem wsum_split : ∀ (ss al : List Nat), (∀ u ∈ al, u ≤ 2) → wsum ss al (fun u => u != 0) = wsum ss al (fun u => u == 1) + wsum ss al (fun u => u == 2)
  | [], al, _ => by simp [wsum]
  | _ :: _, [], _ => by simp [wsum]
  | x :: ss, u :: al, h => by
    have ih := wsum_split ss al fun v hv => h v (List.mem_cons_of_mem _ hv)
    have hu := h u (List.mem_cons_self ..)
    rw [wsum_cons, wsum_cons, wsum_cons, ih]
    have : u = 0 ∨ u = 1 ∨ u = 2 := by omega
    rcases this with rfl | rfl | rfl <;> simp <;> omega
theorem wsum_total : ∀ (ss al : List Nat), ss.length = al.length → wsum ss al (fun u => u == 0) + wsum ss al (fun u => u != 0) = ss.sum
  | [], [], _ => rfl
  | [], _ :: _, h => by simp at h
  | _ :: _, [], h => by simp at h
  | x :: ss, u :: al, h => by
    have ih := wsum_total ss al (by simpa using h)
    rw [wsum_cons, wsum_cons, List.sum_cons, ← ih]
    by_cases hu : u = 0
    · subst hu
      simp
      omega
    · have e1 : (u == 0) = false := by simpa using hu
      have e2 : (u != 0) = true := by simpa using hu
      simp only [e1, e2, if_true]
      rw [if_neg Bool.false_ne_true]
      omega
theorem sold_eq (s : Stand) (a : List Nat) (h : a.length ≤ s.blocks.length) (h2 : ∀ u ∈ a, u ≤ 2) : s.soldSeats a = soldN (SA s) a := by
  show s.seatsWhere a _ = _
  rw [where_eq s a _ h, wsum_split _ _ h2]
  rfl
theorem away_eq (s : Stand) (a : List Nat) (h : a.length ≤ s.blocks.length) : s.awaySeats a = sw (SA s) a 2 := where_eq s a _ h
/-! all allocations -/
def tailsF (as : List Nat) : List (List Nat) := as.foldr (fun a rest => (allowed a).flatMap fun u => rest.map fun l => u :: l) [[]]
theorem more_flat (hs : List (List Nat)) (us : List Nat) (R : List (List Nat)) : (more hs us).flatMap (fun h => R.map fun l => h ++ l) = hs.flatMap fun h => (us.flatMap fun u => R.map fun l => u :: l).map fun l => h ++ l := by
  unfold more
  rw [List.flatMap_assoc]
  congr 1
  funext h
  rw [List.flatMap_map, List.map_flatMap]
  congr 1
  funext u
  rw [List.map_map]
  congr 1
  funext l
  show (h ++ [u]) ++ l = h ++ u :: l
  simp
theorem foldl_tails : ∀ (as : List Nat) (hs : List (List Nat)), as.foldl (fun found a => more found (allowed a)) hs = hs.flatMap fun h => (tailsF as).map fun l => h ++ l
  | [], hs => by
    show hs = hs.flatMap fun h => [h ++ []]
    induction hs with
    | nil => rfl
    | cons a r ih =>
      rw [List.flatMap_cons, ← ih, List.append_nil]
      rfl
  | a :: as, hs => by
    rw [List.foldl_cons, foldl_tails as, more_flat]
    rfl
theorem allocs_tails (as : List Nat) : allocs as = tailsF as := by
  unfold allocs
  rw [foldl_tails]
  simp
theorem allocations_eq (s : Stand) : s.allocations = allocs (AA s) := by
  rw [allocs_tails]
  unfold Kv437.Stand.allocations tailsF AA
  rw [List.foldr_map]
  rfl
theorem sep_eq (s : Stand) (a : List Nat) : s.isSeparated a = sep s.adjacency a := by
  unfold Kv437.Stand.isSeparated sep
  congr 1
  funext pr
  show (a.getD pr.1 0 == 0 || a.getD pr.2 0 == 0 || a.getD pr.1 0 == a.getD pr.2 0) = !(rivals (a.getD pr.1 0) (a.getD pr.2 0))
  generalize a.getD pr.1 0 = x
  generalize a.getD pr.2 0 = y
  unfold rivals bne
  cases (x == 0) <;> cases (y == 0) <;> cases (x == y) <;> rfl
theorem allowed_le {a u : Nat} (ha : a ≤ 3) (h : u ∈ allowed a) : u ≤ 2 := by
  unfold allowed at h
  split at h
  · simp at h
    omega
  · split at h
    · simp at h
      omega
    · simp at h
      omega
theorem tails_mem : ∀ (as al : List Nat), al ∈ tailsF as ↔ al.length = as.length ∧ resp as al = true
  | [], al => by
    show al ∈ [[]] ↔ _
    constructor
    · intro h
      have : al = [] := by simpa using h
      subst this
      exact ⟨rfl, rfl⟩
    · rintro ⟨h, _⟩
      have : al = [] := List.length_eq_zero_iff.mp h
      subst this
      simp
  | a :: as, al => by
    show al ∈ (allowed a).flatMap (fun u => (tailsF as).map fun l => u :: l) ↔ _
    rw [List.mem_flatMap]
    constructor
    · rintro ⟨u, hu, h⟩
      obtain ⟨l, hl, rfl⟩ := List.mem_map.mp h
      obtain ⟨h1, h2⟩ := (tails_mem as l).mp hl
      refine ⟨by rw [List.length_cons, List.length_cons, h1], ?_⟩
      unfold resp at h2 ⊢
      rw [List.zip_cons_cons, List.all_cons, h2, Bool.and_true]
      exact decide_eq_true hu
    · rintro ⟨h1, h2⟩
      cases al with
      | nil => simp at h1
      | cons u l =>
        unfold resp at h2
        rw [List.zip_cons_cons, List.all_cons, Bool.and_eq_true] at h2
        exact ⟨u, of_decide_eq_true h2.1, List.mem_map.mpr ⟨l, (tails_mem as l).mpr ⟨by simpa using h1, h2.2⟩, rfl⟩⟩
theorem resp_le : ∀ (as al : List Nat), (∀ a ∈ as, a ≤ 3) → al.length = as.length → resp as al = true → ∀ u ∈ al, u ≤ 2
  | _, [], _, _, _, u, h => by simp at h
  | [], _ :: _, _, h, _, _, _ => by simp at h
  | a :: as, v :: al, h3, hl, hr, u, hu => by
    unfold resp at hr
    rw [List.zip_cons_cons, List.all_cons, Bool.and_eq_true] at hr
    rcases List.mem_cons.mp hu with rfl | hu
    · exact allowed_le (h3 a (List.mem_cons_self ..)) (of_decide_eq_true hr.1)
    · exact resp_le as al (fun b hb => h3 b (List.mem_cons_of_mem _ hb)) (by simpa using hl) hr.2 u hu
theorem valids_uses {s : Stand} (h : Ok s) {al : List Nat} (ha : al ∈ valids (AA s) s.adjacency) : al.length = s.blocks.length ∧ ∀ u ∈ al, u ≤ 2 := by
  have h1 := (List.mem_filter.mp ha).1
  rw [allocs_tails] at h1
  obtain ⟨h2, h3⟩ := (tails_mem _ _).mp h1
  refine ⟨by rw [h2, List.length_map], resp_le _ _ h.as3 h2 h3⟩
theorem validA_eq {s : Stand} (h : Ok s) (k : Nat) : s.validAllocations k = (valids (AA s) s.adjacency).filter fun a => decide (k ≤ sw (SA s) a 2) := by
  unfold Kv437.Stand.validAllocations valids
  rw [allocations_eq, List.filter_filter]
  refine List.filter_congr fun a ha => ?_
  have hl := allocs_mem _ _ rfl a ha
  rw [List.length_map] at hl
  rw [sep_eq, away_eq s a (by omega), Bool.and_comm]
theorem validA0 {s : Stand} (h : Ok s) : s.validAllocations 0 = valids (AA s) s.adjacency := by
  rw [validA_eq h]
  refine List.filter_eq_self.mpr fun a _ => ?_
  simp
/-! the best -/
def bst (ss : List Nat) (mb : Int × List Nat) (al : List Nat) : Int × List Nat := if mb.1 < (soldN ss al : Int) then ((soldN ss al : Int), al) else mb
theorem bstep_filter (ss : List Nat) (k : Nat) : ∀ (V : List (List Nat)) (b : Int × List Nat), V.foldl (bstep ss k) b = (V.filter fun a => decide (k ≤ sw ss a 2)).foldl (bst ss) b
  | [], b => rfl
  | a :: V, b => by
    rw [List.foldl_cons, bstep_filter ss k V, List.filter_cons]
    by_cases h : k ≤ sw ss a 2
    · rw [if_pos (decide_eq_true h), List.foldl_cons]
      congr 1
      unfold bstep bst
      by_cases h2 : b.1 < (soldN ss a : Int)
      · rw [if_pos ⟨h, h2⟩, if_pos h2]
      · rw [if_neg (fun z => h2 z.2), if_neg h2]
    · rw [if_neg (by simpa using h)]
      congr 1
      unfold bstep
      rw [if_neg (fun z => h z.1)]
theorem best_fold {s : Stand} (h : Ok s) : ∀ (F : List (List Nat)) (n : Nat) (b : List Nat), (∀ a ∈ F, a.length ≤ s.blocks.length ∧ ∀ u ∈ a, u ≤ 2) → n = s.soldSeats b →
    F.foldl (bst (SA s)) ((n : Int), b) = (((s.soldSeats (F.foldl (fun (best : Nat × List Nat) a => let sold := s.soldSeats a; if best.1 < sold then (sold, a) else best) (n, b)).2 : Nat) : Int), (F.foldl (fun (best : Nat × List Nat) a => let sold := s.soldSeats a; if best.1 < sold then (sold, a) else best) (n, b)).2)
  | [], n, b, _, e => by
    show ((n : Int), b) = (((s.soldSeats b : Nat) : Int), b)
    rw [e]
  | a :: F, n, b, hF, e => by
    obtain ⟨h1, h2⟩ := hF a (List.mem_cons_self ..)
    have hs := sold_eq s a h1 h2
    have hF' := fun x hx => hF x (List.mem_cons_of_mem _ hx)
    rw [List.foldl_cons, List.foldl_cons]
    show F.foldl (bst (SA s)) (if (n : Int) < (soldN (SA s) a : Int) then ((soldN (SA s) a : Int), a) else ((n : Int), b)) = _
    by_cases hc : n < s.soldSeats a
    · rw [if_pos (by rw [← hs]; omega)]
      have : (let sold := s.soldSeats a; if (n, b).1 < sold then (sold, a) else (n, b)) = (s.soldSeats a, a) := if_pos hc
      rw [this, ← hs]
      exact best_fold h F _ a hF' rfl
    · rw [if_neg (by rw [← hs]; omega)]
      have : (let sold := s.soldSeats a; if (n, b).1 < sold then (sold, a) else (n, b)) = (n, b) := if_neg hc
      rw [this]
      exact best_fold h F n b hF' e
/-- what the search gives, by the specification's best -/
theorem best_eq {s : Stand} (h : Ok s) (k : Nat) : bestP (SA s) (AA s) s.adjacency k = match s.best k with
    | none => (-1, [])
    | some a => (((s.soldSeats a : Nat) : Int), a) := by
  unfold bestP
  rw [bstep_filter, ← validA_eq h]
  unfold Kv437.Stand.best
  have hall : ∀ a ∈ s.validAllocations k, a.length ≤ s.blocks.length ∧ ∀ u ∈ a, u ≤ 2 := fun a ha => by
    rw [validA_eq h] at ha
    obtain ⟨h1, h2⟩ := valids_uses h (List.mem_filter.mp ha).1
    exact ⟨by omega, h2⟩
  cases hv : s.validAllocations k with
  | nil => rfl
  | cons a F =>
    rw [hv] at hall
    obtain ⟨h1, h2⟩ := hall a (List.mem_cons_self ..)
    have hs := sold_eq s a h1 h2
    rw [List.foldl_cons]
    have : bst (SA s) (-1, []) a = (((s.soldSeats a : Nat) : Int), a) := by
      unfold bst
      rw [if_pos (by show (-1 : Int) < _; omega), hs]
    rw [this]
    exact best_fold h F _ a (fun x hx => hall x (List.mem_cons_of_mem _ hx)) rfl
theorem best_fold_mem (s : Stand) : ∀ (F : List (List Nat)) (n : Nat) (b : List Nat), (F.foldl (fun (best : Nat × List Nat) a => let sold := s.soldSeats a; if best.1 < sold then (sold, a) else best) (n, b)).2 ∈ b :: F
  | [], n, b => by simp
  | a :: F, n, b => by
    rw [List.foldl_cons]
    by_cases hc : n < s.soldSeats a
    · have : (let sold := s.soldSeats a; if (n, b).1 < sold then (sold, a) else (n, b)) = (s.soldSeats a, a) := if_pos hc
      rw [this]
      exact List.mem_cons_of_mem _ (best_fold_mem s F _ a)
    · have : (let sold := s.soldSeats a; if (n, b).1 < sold then (sold, a) else (n, b)) = (n, b) := if_neg hc
      rw [this]
      rcases List.mem_cons.mp (best_fold_mem s F n b) with e | e
      · exact List.mem_cons.mpr (.inl e)
      · exact List.mem_cons_of_mem _ (List.mem_cons_of_mem _ e)
theorem best_mem {s : Stand} {k : Nat} {a : List Nat} (e : s.best k = some a) : a ∈ s.validAllocations k := by
  unfold Kv437.Stand.best at e
  cases hv : s.validAllocations k with
  | nil => rw [hv] at e; cases e
  | cons b F =>
    rw [hv] at e
    have := Option.some.inj e
    rw [← this]
    exact best_fold_mem s F _ b
theorem best_uses {s : Stand} (h : Ok s) {k : Nat} {a : List Nat} (e : s.best k = some a) : a.length = s.blocks.length ∧ ∀ u ∈ a, u ≤ 2 := by
  have := best_mem e
  rw [validA_eq h] at this
  exact valids_uses h (List.mem_filter.mp this).1
/-! the most away seats -/
theorem most_fold (f : List Nat → Nat) : ∀ (F : List (List Nat)) (n : Nat), F.foldl (fun (m : Int) al => if (f al : Int) > m then (f al : Int) else m) (n : Int) = (((F.map f).foldl max n : Nat) : Int)
  | [], n => rfl
  | a :: F, n => by
    rw [List.foldl_cons, List.map_cons, List.foldl_cons]
    have : (if (f a : Int) > (n : Int) then (f a : Int) else (n : Int)) = ((max n (f a) : Nat) : Int) := by split <;> omega
    rw [this]
    exact most_fold f F _
theorem most_eq {s : Stand} (h : Ok s) : mostP (SA s) (AA s) s.adjacency = match s.validAllocations 0 with
    | [] => -1
    | l => (((l.map s.awaySeats).foldl max 0 : Nat) : Int) := by
  unfold mostP
  rw [← validA0 h]
  have hall : ∀ a ∈ s.validAllocations 0, a.length ≤ s.blocks.length := fun a ha => by
    rw [validA0 h] at ha
    have := (valids_uses h ha).1
    omega
  cases hv : s.validAllocations 0 with
  | nil => rfl
  | cons a F =>
    rw [hv] at hall
    have hm : ((a :: F).map s.awaySeats) = (a :: F).map fun al => sw (SA s) al 2 := List.map_congr_left fun al hal => away_eq s al (hall al hal)
    show (a :: F).foldl (mstep (SA s)) (-1) = ((((a :: F).map s.awaySeats).foldl max 0 : Nat) : Int)
    rw [hm, List.foldl_cons, List.map_cons, List.foldl_cons]
    have e1 : mstep (SA s) (-1) a = ((max 0 (sw (SA s) a 2) : Nat) : Int) := by
      unfold mstep
      rw [if_pos (by omega)]
      omega
    rw [e1]
    exact most_fold (fun al => sw (SA s) al 2) F _
theorem contains_eq {s : Stand} (h : Ok s) {a : List Nat} (hl : a.length = s.blocks.length) : s.allocations.contains a = resp (AA s) a := by
  rw [allocations_eq, allocs_tails, Bool.eq_iff_iff, List.contains_iff_mem, tails_mem]
  constructor
  · exact fun z => z.2
  · exact fun z => ⟨by rw [hl, List.length_map], z⟩
theorem isAl_eq (s : Stand) (a : List Nat) : s.isAllocation a = isAl s.blocks.length a := rfl
theorem total_eq (s : Stand) : s.totalSeats = (SA s).sum := rfl
end Sb
/-! ### K. the calls that change the planner -/
namespace Sb
open PySem PySem.Spec PyProof.Rows L2
open Evl (Ex Ev EvT EvL)
open Kv437 (Stand Block Operation)
local macro_rules | `(tactic| walk_at "rd") => `(tactic| first | exact rd_add | exact rd_sub | exact rd_lt | exact rd_le | exact rd_gt | exact rd_ge | exact rd_eq | exact rd_ne | exact rd_ixL (j := 0) rfl | exact rd_ixL (j := 1) rfl)
local macro_rules | `(tactic| walk_at "ed") => `(tactic| first
  | exact ed_int | exact ed_bl
  | (refine' ed_var rfl ?h; (case h => assumption))
  | (refine' ed_op ?a ?b ?c; (case a => walk_at "ed"); (case b => walk_at "ed"); (case c => walk_at "rd"))
  | (refine' ed_cb ?a ?c; (case a => walk_at "ea"); (case c => first | exact rc_len | exact rc_min | exact rc_max | exact rc_list))
  | (refine' ed_notV ?a; walk_at "ed")
  | (refine' ed_tup ?a ?b; (case a => walk_at "ea"); (case b => simp))
  | (refine' ed_lst ?a ?b; (case a => walk_at "ea"); (case b => simp)))
local macro_rules | `(tactic| walk_at "ea") => `(tactic| first | exact ea_nil | (refine' ea_cons ?a ?b; (case a => walk_at "ed"); (case b => walk_at "ea")))
local macro_rules | `(tactic| walk_at "et") => `(tactic| first
  | (refine' et_not ?a; (case a => walk_at "et"))
  | (refine' et_t ?a; (case a => walk_at "ed"))
  | (refine' et_b ?a; (case a => walk_at "ed")))

abbrev iI (l : List Int) : PyData := .list (l.map PyData.int)
def mkR (r : Kv437.Planner × Kv437.Response) : Stand × List Int := (r.1.stand, r.2.code :: r.2.values.map Int.ofNat)
/-- what an operation does to the state, and its answer -/
def dStep (op : Operation) (s : Stand) : Stand × List Int := mkR (Kv437.Planner.run ⟨s⟩ op)
section
open Kv437 (Response Planner)
variable (s : Stand)
theorem run1 (seats : Nat) : Planner.run ⟨s⟩ (.addBlock seats) = if 99 < seats then (⟨s⟩, .error (-22)) else if 6 ≤ s.blocks.length then (⟨s⟩, .error (-28)) else (⟨{ s with blocks := s.blocks ++ [⟨seats, 0⟩] }⟩, .number s.blocks.length) := rfl
theorem run2 : Planner.run ⟨s⟩ .removeLastBlock = if s.blocks.isEmpty then (⟨s⟩, .error (-6)) else (⟨⟨s.blocks.dropLast, s.adjacency.filter fun pair => pair.1 != s.blocks.length - 1 && pair.2 != s.blocks.length - 1⟩⟩, .number (s.blocks.length - 1)) := rfl
theorem run3 (i seats : Nat) : Planner.run ⟨s⟩ (.setSeats i seats) = if Planner.isBlock ⟨s⟩ i = false then (⟨s⟩, .error (-2)) else if 99 < seats then (⟨s⟩, .error (-22)) else (⟨withSeats s i seats⟩, .number (s.seatsOf i)) := rfl
theorem run4 (i a : Nat) : Planner.run ⟨s⟩ (.assign i a) = if Planner.isBlock ⟨s⟩ i = false then (⟨s⟩, .error (-2)) else if 3 < a then (⟨s⟩, .error (-22)) else (⟨s.withAssignment i a⟩, .number (s.block i).assignment) := rfl
theorem run5 (i j : Nat) : Planner.run ⟨s⟩ (.connect i j) = if Planner.isBlock ⟨s⟩ i = false ∨ Planner.isBlock ⟨s⟩ j = false then (⟨s⟩, .error (-2)) else if i = j then (⟨s⟩, .error (-22)) else if s.areAdjacent i j then (⟨s⟩, .error (-17))
  else (⟨{ s with adjacency := s.adjacency ++ [(min i j, max i j)] }⟩, .number (s.adjacency.length + 1)) := rfl
theorem run6 (i j : Nat) : Planner.run ⟨s⟩ (.disconnect i j) = if Planner.isBlock ⟨s⟩ i = false ∨ Planner.isBlock ⟨s⟩ j = false then (⟨s⟩, .error (-2)) else if s.areAdjacent i j = false then (⟨s⟩, .error (-6))
  else (⟨{ s with adjacency := s.adjacency.filter fun pair => pair != (min i j, max i j) }⟩, .number (s.adjacency.length - 1)) := rfl
theorem run9 (i : Nat) : Planner.run ⟨s⟩ (.neighbors i) = if Planner.isBlock ⟨s⟩ i = false then (⟨s⟩, .error (-2)) else (⟨s⟩, .list ((List.range s.blocks.length).filter (s.areAdjacent i))) := rfl
theorem run11 : Planner.run ⟨s⟩ .emptySeats = match s.best 0 with
  | none => (⟨s⟩, .error (-33))
  | some a => (⟨s⟩, .number (s.totalSeats - s.soldSeats a)) := rfl
theorem run13 : Planner.run ⟨s⟩ .maxAway = match s.validAllocations 0 with
  | [] => (⟨s⟩, .error (-33))
  | allocations => (⟨s⟩, .number ((allocations.map s.awaySeats).foldl max 0)) := rfl
theorem run14 (a : List Nat) : Planner.run ⟨s⟩ (.isValid a) = if s.isAllocation a = false then (⟨s⟩, .error (-22)) else (⟨s⟩, .number (Kv437.flag (s.isSeparated a && s.allocations.contains a))) := rfl
theorem run15 (a : List Nat) : Planner.run ⟨s⟩ (.soldSeats a) = if s.isAllocation a = false then (⟨s⟩, .error (-22)) else (⟨s⟩, ⟨(s.soldSeats a : Nat), [s.seatsWhere a (fun use => use == 1), s.awaySeats a]⟩) := rfl
theorem run16 (v w : List Nat) : Planner.run ⟨s⟩ (.join v w) = if s.isAllocation v = false ∨ s.isAllocation w = false then (⟨s⟩, .error (-22)) else (⟨s⟩, .list (Kv437.join v w)) := rfl
theorem run17 (v w : List Nat) : Planner.run ⟨s⟩ (.meet v w) = if s.isAllocation v = false ∨ s.isAllocation w = false then (⟨s⟩, .error (-22)) else (⟨s⟩, .list (Kv437.meet v w)) := rfl
theorem run18 (i a : Nat) : Planner.run ⟨s⟩ (.soldIfAssigned i a) = if Planner.isBlock ⟨s⟩ i = false then (⟨s⟩, .error (-2)) else if 3 < a then (⟨s⟩, .error (-22)) else (⟨s⟩, Kv437.soldResponse (s.withAssignment i a)) := rfl
theorem run19 (i : Nat) : Planner.run ⟨s⟩ (.soldIfClosed i) = if Planner.isBlock ⟨s⟩ i = false then (⟨s⟩, .error (-2)) else (⟨s⟩, Kv437.soldResponse (s.withAssignment i 3)) := rfl
theorem run21 : Planner.run ⟨s⟩ .fixBest = match s.best 0 with
  | none => (⟨s⟩, .error (-33))
  | some a => (⟨{ s with blocks := (s.blocks.zip a).map fun q => { q.1 with assignment := if q.2 = 0 then 3 else q.2 } }⟩, .number (s.soldSeats a)) := rfl
end
/-- which operation a call asks for -/
inductive Dd : Nat → List Nat → List (List Nat) → Operation → Prop
  | k1 (n ls) : Dd 1 [n] ls (.addBlock n)
  | k2 (ns ls) : Dd 2 ns ls .removeLastBlock
  | k3 (i n ls) : Dd 3 [i, n] ls (.setSeats i n)
  | k4 (i a ls) : Dd 4 [i, a] ls (.assign i a)
  | k5 (i j ls) : Dd 5 [i, j] ls (.connect i j)
  | k6 (i j ls) : Dd 6 [i, j] ls (.disconnect i j)
  | k7 (ns ls) : Dd 7 ns ls .swapTeams
  | k8 (ns ls) : Dd 8 ns ls .listBlocks
  | k9 (b ls) : Dd 9 [b] ls (.neighbors b)
  | k10 (ns ls) : Dd 10 ns ls .bestAllocation
  | k11 (ns ls) : Dd 11 ns ls .emptySeats
  | k12 (k ls) : Dd 12 [k] ls (.bestWithAway k)
  | k13 (ns ls) : Dd 13 ns ls .maxAway
  | k14 (ns a) : Dd 14 ns [a] (.isValid a)
  | k15 (ns a) : Dd 15 ns [a] (.soldSeats a)
  | k16 (ns v w) : Dd 16 ns [v, w] (.join v w)
  | k17 (ns v w) : Dd 17 ns [v, w] (.meet v w)
  | k18 (i a ls) : Dd 18 [i, a] ls (.soldIfAssigned i a)
  | k19 (i ls) : Dd 19 [i] ls (.soldIfClosed i)
  | k20 (ns ls) : Dd 20 ns ls .countValid
  | k21 (ns ls) : Dd 21 ns ls .fixBest
  | k22 (ns ls) : Dd 22 ns ls .getState
/-- the promise of the call numbered k -/
def spD (K : PySem.W.Frag) (k : Nat) : Sp := fun vs H Q _ => ∃ p nv lv s ns ls op, vs = [.ref p, nv, lv] ∧ PlanAt K H p s ∧ Ok s ∧ Dq K H nv (nL ns) ∧ Dq K H lv (aL ls) ∧ (∀ l ∈ ls, l.length ≤ 30000) ∧ Dd k ns ls op ∧
  ∀ v H', ExB p H H' → PlanAt K H' p (dStep op s).1 → Dq K H' v (iI (dStep op s).2) → Q v H'
theorem bn (b : Bool) : (b = false) = (¬ b = true) := by cases b <;> simp
section
variable {P : Program} {w : World} {K : PySem.W.Frag} {mg : Str → Option Value} {base : Heap}
theorem okD {x : Str} {st : Stmt} {N ps : List Str} {k n : Nat} (D : Df K mg x st) (S : FnScope N ps (defScope st)) (h3 : ps.length = 3)
    (bind : ∀ (kV doc pm : Value) (an : Option Addr) (cdv ct : Value) (us : List Value), us.length = ps.length → bindArgs (PySem.W.fnOf x x (defArgs st) (defBody st) (defScope st) .none kV doc pm an cdv ct) ⟨us, []⟩ = pure (ps.zip us))
    (hbody : ∀ (f : Addr) (cdv : Value) (A : Around) (outer : List Env) (sh : Shared) (H : Hp) (p : Addr) (nv lv : V) (s : Stand) (ns : List Nat) (ls : List (List Nat)) (op : Operation) (E : XK), Room k (A.deeper (envOfC x (defScope st) sh.heap.objs.size f cdv)) →
      PlanAt K H p s → Ok s → Dq K H nv (nL ns) → Dq K H lv (aL ls) → (∀ l ∈ ls, l.length ≤ 30000) → Dd n ns ls op →
      ∃ t, PSs (cxOf CX0 P w K mg base N x (defScope st) f cdv A outer sh H E).nox (defBody st) t ∧ ∀ Q : VK, (∀ v H', ExB p H H' → PlanAt K H' p (dStep op s).1 → Dq K H' v (iI (dStep op s).2) → Q v H') → t { nx := fun _ H' => Q .non H', rt := Q } (start N [.ref p, nv, lv]) H) : OkF P w K mg base (k + 1) x ps (spD K n) := by
  refine okF D S (fun vs H Q E h => ?_) bind fun f cdv A outer sh H vs Q E hr h => ?_
  · obtain ⟨p, nv, lv, s, ns, ls, op, rfl, _⟩ := h
    exact h3.symm
  · obtain ⟨p, nv, lv, s, ns, ls, op, rfl, hP, hO, hn, hl, hz, hd, q⟩ := h
    obtain ⟨t, ht, hq⟩ := hbody f cdv A outer sh H p nv lv s ns ls op E hr hP hO hn hl hz hd
    exact ⟨t, ht, hq Q q⟩
theorem same_done {H : Hp} {p : Addr} {s : Stand} {op : Operation} {out : List Int} {Q : VK} (hq : ∀ v H', ExB p H H' → PlanAt K H' p (dStep op s).1 → Dq K H' v (iI (dStep op s).2) → Q v H') (hP : PlanAt K H p s) (e : dStep op s = (s, out)) :
    ∀ v H1, Ex H H1 → Dq K H1 v (iI out) → Q v H1 := fun v H1 e1 hv => by
  rw [e] at hq
  exact hq v H1 (Ex.exb e1) (hP.mono e1) hv
/-! 1 add_block -/
theorem sc_f_add_block : FnScope ["plan", "numbers", "lists"] ["plan", "numbers", "lists"] (defScope s_f_add_block) := ⟨rfl, rfl, rfl, by decide +kernel, rfl, by decide +kernel, by decide +kernel⟩
theorem f_add_block (T : Txt K mg) : OkF P w K mg base 2 "add_block" ["plan", "numbers", "lists"] (spD K 1) := by
  refine okD T.d_add_block sc_f_add_block rfl (fun _ _ _ _ _ _ us hl => match us, hl with | [_, _, _], _ => rfl) fun f cdv A outer sh H p nv lv s ns ls op E hr hP hO hn hl hz hd => ?_
  cases hd
  rename_i n
  refine ⟨_, (pss_cons (ps_if (pt_cmpR op_gt (pe_ix (r := rIxL K) ix_list (pv 1) pe_int (fun _ _ => rfl)) (pe_gi rfl T.i_MOST_SEATS) (nomark _)) (pss_one (ps_ret (pe_lst (pa_cons (pe_gi rfl T.i_BAD_ARGUMENT) pa_nil)))) pss_nil)
    (pss_cons (ps_if (pt_cmpR op_eq (pe_methF0 (m_block_count T) T.cls (hr.mono (by decide)) (pv 0)) (pe_gi rfl T.i_MOST_BLOCKS) (nomark _)) (pss_one (ps_ret (pe_lst (pa_cons (pe_gi rfl T.i_ALL_FULL) pa_nil)))) pss_nil)
    (pss_cons (ps_expr (pe_methF (K := K) (m_add_block T) T.cls (hr.mono (by decide)) (pv 0) (pa_cons (pe_ix (r := rIxL K) ix_list (pv 1) pe_int (fun _ _ => rfl)) pa_nil)))
    (pss_one (ps_ret (pe_lst (pa_cons (pe_op op_sub (pe_methF0 (m_block_count T) T.cls (hr.mono (by decide)) (pv 0)) pe_int) pa_nil))))))), fun Q hq => ?_⟩
  refine b_when (K := K) (Ex.refl H) (by walk_at "et") (fun hb H1 e1 => ?_) (fun hb H1 e1 => ?_)
  · have h := of_decide_eq_true hb
    exact b_ret e1 (by walk_at "ed") (same_done hq hP (out := [-22]) (by unfold dStep; rw [run1, if_pos (by omega)]; rfl))
  have h := of_decide_eq_false hb
  refine b_when (K := K) e1 (et_t (ed_op (ed_meth (Evl.ev_var rfl) hP ea_nil ⟨rfl, rfl⟩) ed_int rd_eq)) (fun hb2 H1 e1 => ?_) (fun hb2 H1 e1 => ?_)
  · have h2 := of_decide_eq_true hb2
    exact b_ret e1 (by walk_at "ed") (same_done hq hP (out := [-28]) (by unfold dStep; rw [run1, if_neg (by omega), if_pos (by show 6 ≤ s.blocks.length; omega)]; rfl))
  have h2 := of_decide_eq_false hb2
  have h6 := hO.n6
  have hs : dStep (.addBlock n) s = ({ s with blocks := s.blocks ++ [⟨n, 0⟩] }, [(s.blocks.length : Int)]) := by
    unfold dStep
    rw [run1, if_neg (by omega), if_neg (by show ¬ 6 ≤ s.blocks.length; omega)]
    rfl
  rw [hs] at hq
  refine b_methM (Evl.ev_var rfl) (hP.mono e1) (ea_cons (ed_op (ed_var rfl (hn.mono e1)) ed_int (rd_ixL (j := 0) rfl)) ea_nil) ⟨n, hO.big, rfl, rfl⟩ fun H2 e2 hP2 => ?_
  refine b_ret (K := K) (H0 := H2) (Ex.refl H2) (ed_is (ed_lst (ea_cons (ed_op (ed_meth (Evl.ev_var rfl) hP2 ea_nil ⟨rfl, rfl⟩) ed_int rd_sub) ea_nil) (by simp)) ?_) fun v H3 e3 hv => hq v H3 (((Ex.exb e1).trans e2).trans (Ex.exb e3)) (hP2.mono e3) hv
  show PyData.list [.int (((s.blocks ++ ([⟨n, 0⟩] : List Block)).length : Int) - 1)] = PyData.list [.int (s.blocks.length : Int)]
  have e5 : (((s.blocks ++ ([⟨n, 0⟩] : List Block)).length : Int) - 1) = (s.blocks.length : Int) := by
    rw [List.length_append]
    show ((s.blocks.length + 1 : Nat) : Int) - 1 = _
    omega
  rw [e5]
/-! 2 remove_last_block -/
theorem sc_f_remove_last_block : FnScope ["plan", "numbers", "lists"] ["plan", "numbers", "lists"] (defScope s_f_remove_last_block) := ⟨rfl, rfl, rfl, by decide +kernel, rfl, by decide +kernel, by decide +kernel⟩
theorem f_remove_last_block (T : Txt K mg) : OkF P w K mg base 2 "remove_last_block" ["plan", "numbers", "lists"] (spD K 2) := by
  refine okD T.d_remove_last_block sc_f_remove_last_block rfl (fun _ _ _ _ _ _ us hl => match us, hl with | [_, _, _], _ => rfl) fun f cdv A outer sh H p nv lv s ns ls op E hr hP hO hn hl hz hd => ?_
  cases hd
  refine ⟨_, (pss_cons (ps_if (pt_cmpR op_eq (pe_methF0 (m_block_count T) T.cls (hr.mono (by decide)) (pv 0)) pe_int (nomark _)) (pss_one (ps_ret (pe_lst (pa_cons (pe_gi rfl T.i_NOTHING_THERE) pa_nil)))) pss_nil)
    (pss_cons (ps_expr (pe_methF0 (m_remove_last_block T) T.cls (hr.mono (by decide)) (pv 0)))
    (pss_one (ps_ret (pe_lst (pa_cons (pe_methF0 (m_block_count T) T.cls (hr.mono (by decide)) (pv 0)) pa_nil)))))), fun Q hq => ?_⟩
  refine b_when (K := K) (Ex.refl H) (et_t (ed_op (ed_meth (Evl.ev_var rfl) hP ea_nil ⟨rfl, rfl⟩) ed_int rd_eq)) (fun hb H1 e1 => ?_) (fun hb H1 e1 => ?_)
  · have h := of_decide_eq_true hb
    have h0 : s.blocks = [] := List.length_eq_zero_iff.mp (by omega)
    exact b_ret e1 (by walk_at "ed") (same_done hq hP (out := [-6]) (by unfold dStep; rw [run2, if_pos (by show s.blocks.isEmpty = true; rw [h0]; rfl)]; rfl))
  have h := of_decide_eq_false hb
  have hp : 0 < s.blocks.length := by omega
  have hs : dStep .removeLastBlock s = (⟨s.blocks.dropLast, s.adjacency.filter fun pr => pr.2 != s.blocks.length - 1⟩, [((s.blocks.length - 1 : Nat) : Int)]) := by
    have hne : ¬ s.blocks.isEmpty = true := by
      rw [List.isEmpty_iff]
      intro z
      rw [z] at hp
      exact absurd hp (by decide)
    unfold dStep
    rw [run2, if_neg hne, ← last_spec hO hp]
    rfl
  rw [hs] at hq
  refine b_methM (Evl.ev_var rfl) (hP.mono e1) ea_nil ⟨hO.big, hp, rfl, rfl⟩ fun H2 e2 hP2 => ?_
  refine b_ret (K := K) (H0 := H2) (Ex.refl H2) (ed_is (ed_lst (ea_cons (ed_meth (Evl.ev_var rfl) hP2 ea_nil ⟨rfl, rfl⟩) ea_nil) (by simp)) ?_) fun v H3 e3 hv => hq v H3 (((Ex.exb e1).trans e2).trans (Ex.exb e3)) (hP2.mono e3) hv
  show PyData.list [.int ((s.blocks.dropLast.length : Nat) : Int)] = PyData.list [.int ((s.blocks.length - 1 : Nat) : Int)]
  rw [List.length_dropLast]
/-! 3 set_seats -/
theorem blk_at {s : Stand} {i : Nat} (h : i < s.blocks.length) : s.block i = s.blocks[i] := by
  show s.blocks.getD i ⟨0, 0⟩ = _
  rw [List.getD_eq_getElem?_getD, List.getElem?_eq_getElem h]
  rfl
theorem sa_at {s : Stand} {i : Nat} (h : i < s.blocks.length) : ((SA s).map nI)[i]? = some (nI (s.seatsOf i)) := by
  rw [List.getElem?_map, List.getElem?_map, List.getElem?_eq_getElem h]
  show some (nI s.blocks[i].seats) = some (nI (s.block i).seats)
  rw [blk_at h]
theorem aa_at {s : Stand} {i : Nat} (h : i < s.blocks.length) : ((AA s).map nI)[i]? = some (nI (s.block i).assignment) := by
  rw [List.getElem?_map, List.getElem?_map, List.getElem?_eq_getElem h, blk_at h]
  rfl
theorem isB {s : Stand} {i : Nat} (h : i < s.blocks.length) : ¬ (Kv437.Planner.isBlock ⟨s⟩ i = false) := by
  unfold Kv437.Planner.isBlock
  rw [decide_eq_true h]
  exact fun z => Bool.noConfusion z
theorem noB {s : Stand} {i : Nat} (h : ¬ i < s.blocks.length) : Kv437.Planner.isBlock ⟨s⟩ i = false := decide_eq_false h
theorem sc_f_set_seats : FnScope ["plan", "numbers", "lists", "block", "seats", "former"] ["plan", "numbers", "lists"] (defScope s_f_set_seats) := ⟨rfl, rfl, rfl, by decide +kernel, rfl, by decide +kernel, by decide +kernel⟩
theorem f_set_seats (T : Txt K mg) : OkF P w K mg base 3 "set_seats" ["plan", "numbers", "lists"] (spD K 3) := by
  refine okD T.d_set_seats sc_f_set_seats rfl (fun _ _ _ _ _ _ us hl => match us, hl with | [_, _, _], _ => rfl) fun f cdv A outer sh H p nv lv s ns ls op E hr hP hO hn hl hz hd => ?_
  cases hd
  rename_i i n
  refine ⟨_, (pss_cons (ps_par (i := 3) (j := 4) rfl sc_f_set_seats.nd rfl rfl (by decide) rfl rfl (pa_cons (pe_ix (r := rIxL K) ix_list (pv 1) pe_int (fun _ _ => rfl)) (pa_cons (pe_ix (r := rIxL K) ix_list (pv 1) pe_int (fun _ _ => rfl)) pa_nil)) rfl)
    (pss_cons (ps_if (pt_not (pt_val (pe_methF (K := K) (m_has_block T) T.cls (hr.mono (by decide)) (pv 0) (pa_cons (pv 3) pa_nil)))) (pss_one (ps_ret (pe_lst (pa_cons (pe_gi rfl T.i_NO_SUCH_BLOCK) pa_nil)))) pss_nil)
    (pss_cons (ps_if (pt_cmpR op_gt (pv 4) (pe_gi rfl T.i_MOST_SEATS) (nomark _)) (pss_one (ps_ret (pe_lst (pa_cons (pe_gi rfl T.i_BAD_ARGUMENT) pa_nil)))) pss_nil)
    (pss_cons (ps_set (i := 5) sc_f_set_seats.nd rfl (Or.inl rfl) (pe_ix (r := rIxL K) ix_list (pe_fld (pv 0) rfl) (pv 3) (fun _ _ => rfl)))
    (pss_cons (ps_expr (pe_methF (K := K) (m_use_seats T) T.cls (hr.mono (by decide)) (pv 0) (pa_cons (pv 3) (pa_cons (pv 4) pa_nil))))
    (pss_one (ps_ret (pe_lst (pa_cons (pv 5) pa_nil))))))))), fun Q hq => ?_⟩
  refine b_par (K := K) (Ex.refl H) (by walk_at "ea") fun v1 v2 H0 e0 g1 g2 => ?_
  have hP0 := hP.mono e0
  refine b_when (K := K) (Ex.refl H0) (et_not (et_b (ed_meth (Evl.ev_var rfl) hP0 (by walk_at "ea") ⟨i, rfl, rfl⟩))) (fun hb H1 e1 => ?_) (fun hb H1 e1 => ?_)
  · have h : ¬ i < s.blocks.length := by simpa using hb
    exact b_ret (e0.trans e1) (by walk_at "ed") (same_done hq hP (out := [-2]) (by unfold dStep; rw [run3, if_pos (noB h)]; rfl))
  have h : i < s.blocks.length := by simpa using hb
  refine b_when (K := K) e1 (by walk_at "et") (fun hb2 H1 e1 => ?_) (fun hb2 H1 e1 => ?_)
  · have h2 := of_decide_eq_true hb2
    exact b_ret (e0.trans e1) (by walk_at "ed") (same_done hq hP (out := [-22]) (by unfold dStep; rw [run3, if_neg (isB h), if_pos (by omega)]; rfl))
  have h2 := of_decide_eq_false hb2
  have hs : dStep (.setSeats i n) s = (withSeats s i n, [(s.seatsOf i : Int)]) := by
    unfold dStep
    rw [run3, if_neg (isB h), if_neg (by omega)]
    rfl
  rw [hs] at hq
  obtain ⟨sv, av, cv, hV, q1, q2, q3⟩ := hP0
  refine b_set (K := K) (d := nI (s.seatsOf i)) e1 (ed_op (ed_ev (ev_seats T (Evl.ev_var rfl) hV) q1) (by walk_at "ed") (rd_ixL (sa_at h))) fun v3 H2 e2 g3 => ?_
  have hP2 := (hP.mono e0).mono e2
  refine b_methM (Evl.ev_var rfl) hP2 (ea_cons (ed_var rfl (g1.mono e2)) (ea_cons (ed_var rfl (g2.mono e2)) ea_nil)) ⟨i, n, hO.big, h, rfl, rfl⟩ fun H3 e3 hP3 => ?_
  refine b_ret (K := K) (H0 := H3) (Ex.refl H3) (ed_lst (ea_cons (ed_var rfl (g3.kp (hP2.kp e3))) ea_nil) (by simp)) fun v H4 e4 hv => hq v H4 (((Ex.exb (e0.trans e2)).trans e3).trans (Ex.exb e4)) (hP3.mono e4) hv
/-! 4 assign -/
theorem withA_eq {s : Stand} {i a : Nat} : s.withAssignment i a = withAs s ((AA s).set i a) := by
  unfold Kv437.Stand.withAssignment withAs
  congr 1
  have : ∀ (l : List Block) (i : Nat), (l.modify i fun block => { block with assignment := a }) = (l.zip ((l.map (·.assignment)).set i a)).map fun q => { q.1 with assignment := q.2 } := by
    intro l
    induction l with
    | nil => intro i; cases i <;> rfl
    | cons b r ih =>
      intro i
      cases i with
      | zero =>
        have : r = (r.zip (r.map (·.assignment))).map fun q => { q.1 with assignment := q.2 } := by
          clear ih
          induction r with
          | nil => rfl
          | cons c t ih2 =>
            rw [List.map_cons, List.zip_cons_cons, List.map_cons, ← ih2]
        simp only [List.modify_zero_cons, List.map_cons, List.set_cons_zero, List.zip_cons_cons]
        rw [← this]
      | succ i =>
        simp only [List.modify_succ_cons, List.map_cons, List.set_cons_succ, List.zip_cons_cons]
        rw [ih i]
  exact this _ _
theorem sc_f_assign : FnScope ["plan", "numbers", "lists", "block", "assignment", "former"] ["plan", "numbers", "lists"] (defScope s_f_assign) := ⟨rfl, rfl, rfl, by decide +kernel, rfl, by decide +kernel, by decide +kernel⟩
theorem f_assign (T : Txt K mg) : OkF P w K mg base 2 "assign" ["plan", "numbers", "lists"] (spD K 4) := by
  refine okD T.d_assign sc_f_assign rfl (fun _ _ _ _ _ _ us hl => match us, hl with | [_, _, _], _ => rfl) fun f cdv A outer sh H p nv lv s ns ls op E hr hP hO hn hl hz hd => ?_
  cases hd
  rename_i i n
  refine ⟨_, (pss_cons (ps_par (i := 3) (j := 4) rfl sc_f_assign.nd rfl rfl (by decide) rfl rfl (pa_cons (pe_ix (r := rIxL K) ix_list (pv 1) pe_int (fun _ _ => rfl)) (pa_cons (pe_ix (r := rIxL K) ix_list (pv 1) pe_int (fun _ _ => rfl)) pa_nil)) rfl)
    (pss_cons (ps_if (pt_not (pt_val (pe_methF (K := K) (m_has_block T) T.cls (hr.mono (by decide)) (pv 0) (pa_cons (pv 3) pa_nil)))) (pss_one (ps_ret (pe_lst (pa_cons (pe_gi rfl T.i_NO_SUCH_BLOCK) pa_nil)))) pss_nil)
    (pss_cons (ps_if (pt_cmpR op_gt (pv 4) (pe_gi rfl T.i_GREATEST_ASSIGNMENT) (nomark _)) (pss_one (ps_ret (pe_lst (pa_cons (pe_gi rfl T.i_BAD_ARGUMENT) pa_nil)))) pss_nil)
    (pss_cons (ps_set (i := 5) sc_f_assign.nd rfl (Or.inl rfl) (pe_ix (r := rIxL K) ix_list (pe_fld (pv 0) rfl) (pv 3) (fun _ _ => rfl)))
    (pss_cons (ps_expr (pe_methF (K := K) (m_use_assignments T) T.cls (hr.mono (by decide)) (pv 0) (pa_cons (pe_callF (f_with_item T) (hr.mono (by decide)) rfl (pa_cons (pe_fld (pv 0) rfl) (pa_cons (pv 3) (pa_cons (pv 4) pa_nil)))) pa_nil)))
    (pss_one (ps_ret (pe_lst (pa_cons (pv 5) pa_nil))))))))), fun Q hq => ?_⟩
  refine b_par (K := K) (Ex.refl H) (by walk_at "ea") fun v1 v2 H0 e0 g1 g2 => ?_
  have hP0 := hP.mono e0
  refine b_when (K := K) (Ex.refl H0) (et_not (et_b (ed_meth (Evl.ev_var rfl) hP0 (by walk_at "ea") ⟨i, rfl, rfl⟩))) (fun hb H1 e1 => ?_) (fun hb H1 e1 => ?_)
  · have h : ¬ i < s.blocks.length := by simpa using hb
    exact b_ret (e0.trans e1) (by walk_at "ed") (same_done hq hP (out := [-2]) (by unfold dStep; rw [run4, if_pos (noB h)]; rfl))
  have h : i < s.blocks.length := by simpa using hb
  refine b_when (K := K) e1 (by walk_at "et") (fun hb2 H1 e1 => ?_) (fun hb2 H1 e1 => ?_)
  · have h2 := of_decide_eq_true hb2
    exact b_ret (e0.trans e1) (by walk_at "ed") (same_done hq hP (out := [-22]) (by unfold dStep; rw [run4, if_neg (isB h), if_pos (by omega)]; rfl))
  have h2 := of_decide_eq_false hb2
  have hs : dStep (.assign i n) s = (withAs s ((AA s).set i n), [((s.block i).assignment : Int)]) := by
    rw [← withA_eq]
    unfold dStep
    rw [run4, if_neg (isB h), if_neg (by omega)]
    rfl
  rw [hs] at hq
  obtain ⟨sv, av, cv, hV, q1, q2, q3⟩ := hP0
  refine b_set (K := K) (d := nI (s.block i).assignment) e1 (ed_op (ed_ev (ev_assignments T (Evl.ev_var rfl) hV) q2) (by walk_at "ed") (rd_ixL (aa_at h))) fun v3 H2 e2 g3 => ?_
  have hP2 := (hP.mono e0).mono e2
  have z6 := hO.n6
  refine b_methM (Evl.ev_var rfl) hP2 (ea_cons (ed_call (ea_cons (ed_ev (ev_assignments T (Evl.ev_var rfl) (hV.mono e2)) (q2.mono e2)) (ea_cons (ed_var rfl (g1.mono e2)) (ea_cons (ed_var rfl (g2.mono e2)) ea_nil))) ⟨AA s, i, n, by rw [List.length_map]; exact h, by rw [List.length_map]; omega, rfl, rfl⟩) ea_nil)
    ⟨_, by rw [List.length_set, List.length_map], rfl, rfl⟩ fun H3 e3 hP3 => ?_
  refine b_ret (K := K) (H0 := H3) (Ex.refl H3) (ed_lst (ea_cons (ed_var rfl (g3.kp (hP2.kp e3))) ea_nil) (by simp)) fun v H4 e4 hv => hq v H4 (((Ex.exb (e0.trans e2)).trans e3).trans (Ex.exb e4)) (hP3.mono e4) hv
/-! 5 connect, 6 disconnect -/
theorem sc_f_connect : FnScope ["plan", "numbers", "lists", "one", "other"] ["plan", "numbers", "lists"] (defScope s_f_connect) := ⟨rfl, rfl, rfl, by decide +kernel, rfl, by decide +kernel, by decide +kernel⟩
theorem f_connect (T : Txt K mg) : OkF P w K mg base 3 "connect" ["plan", "numbers", "lists"] (spD K 5) := by
  refine okD T.d_connect sc_f_connect rfl (fun _ _ _ _ _ _ us hl => match us, hl with | [_, _, _], _ => rfl) fun f cdv A outer sh H p nv lv s ns ls op E hr hP hO hn hl hz hd => ?_
  cases hd
  rename_i i j
  refine ⟨_, (pss_cons (ps_par (i := 3) (j := 4) rfl sc_f_connect.nd rfl rfl (by decide) rfl rfl (pa_cons (pe_ix (r := rIxL K) ix_list (pv 1) pe_int (fun _ _ => rfl)) (pa_cons (pe_ix (r := rIxL K) ix_list (pv 1) pe_int (fun _ _ => rfl)) pa_nil)) rfl)
    (pss_cons (ps_if (PW.pt (pw_or (pt_not (pt_val (pe_methF (K := K) (m_has_block T) T.cls (hr.mono (by decide)) (pv 0) (pa_cons (pv 3) pa_nil)))) (pw_or1 (pt_not (pt_val (pe_methF (K := K) (m_has_block T) T.cls (hr.mono (by decide)) (pv 0) (pa_cons (pv 4) pa_nil))))))) (pss_one (ps_ret (pe_lst (pa_cons (pe_gi rfl T.i_NO_SUCH_BLOCK) pa_nil)))) pss_nil)
    (pss_cons (ps_if (pt_cmpR op_eq (pv 3) (pv 4) (nomark _)) (pss_one (ps_ret (pe_lst (pa_cons (pe_gi rfl T.i_BAD_ARGUMENT) pa_nil)))) pss_nil)
    (pss_cons (ps_if (pt_val (pe_methF (K := K) (m_are_adjacent T) T.cls (hr.mono (by decide)) (pv 0) (pa_cons (pv 3) (pa_cons (pv 4) pa_nil)))) (pss_one (ps_ret (pe_lst (pa_cons (pe_gi rfl T.i_ALREADY_ADJACENT) pa_nil)))) pss_nil)
    (pss_cons (ps_expr (pe_methF (K := K) (m_connect T) T.cls (hr.mono (by decide)) (pv 0) (pa_cons (pv 3) (pa_cons (pv 4) pa_nil))))
    (pss_one (ps_ret (pe_lst (pa_cons (pe_callB call_len_seq (by rfl) T.b_len PySem.boot_len (pa_cons (pe_fld (pv 0) rfl) pa_nil)) pa_nil))))))))), fun Q hq => ?_⟩
  refine b_par (K := K) (Ex.refl H) (by walk_at "ea") fun v1 v2 H0 e0 g1 g2 => ?_
  have hP0 := hP.mono e0
  refine b_when (K := K) (Ex.refl H0) (et_or (et_not (et_b (ed_meth (Evl.ev_var rfl) hP0 (by walk_at "ea") ⟨i, rfl, rfl⟩))) fun _ => et_not (et_b (ed_meth (Evl.ev_var rfl) hP0 (by walk_at "ea") ⟨j, rfl, rfl⟩))) (fun hb H1 e1 => ?_) (fun hb H1 e1 => ?_)
  · have h : ¬ i < s.blocks.length ∨ ¬ j < s.blocks.length := by simpa using hb
    exact b_ret (e0.trans e1) (by walk_at "ed") (same_done hq hP (out := [-2]) (by unfold dStep; rw [run5, if_pos (h.imp noB noB)]; rfl))
  have h : i < s.blocks.length ∧ j < s.blocks.length := by simpa using hb
  have hnb : ¬ (Kv437.Planner.isBlock ⟨s⟩ i = false ∨ Kv437.Planner.isBlock ⟨s⟩ j = false) := fun z => z.elim (isB h.1) (isB h.2)
  refine b_when (K := K) e1 (by walk_at "et") (fun hb2 H1 e1 => ?_) (fun hb2 H1 e1 => ?_)
  · have h2 := of_decide_eq_true hb2
    exact b_ret (e0.trans e1) (by walk_at "ed") (same_done hq hP (out := [-22]) (by unfold dStep; rw [run5, if_neg hnb, if_pos (by omega)]; rfl))
  have h2 := of_decide_eq_false hb2
  refine b_when (K := K) e1 (et_b (ed_meth (Evl.ev_var rfl) hP0 (by walk_at "ea") ⟨i, j, rfl, rfl⟩)) (fun hb3 H1 e1 => ?_) (fun hb3 H1 e1 => ?_)
  · exact b_ret (e0.trans e1) (by walk_at "ed") (same_done hq hP (out := [-17]) (by unfold dStep; rw [run5, if_neg hnb, if_neg (by omega), if_pos (by rw [adj_spec hO]; exact hb3)]; rfl))
  have hs : dStep (.connect i j) s = ({ s with adjacency := s.adjacency ++ [(min i j, max i j)] }, [((s.adjacency.length + 1 : Nat) : Int)]) := by
    unfold dStep
    rw [run5, if_neg hnb, if_neg (by omega), if_neg (by rw [adj_spec hO, hb3]; exact Bool.false_ne_true)]
    rfl
  rw [hs] at hq
  have hP1 := hP0.mono e1
  refine b_methM (Evl.ev_var rfl) hP1 (ea_cons (ed_var rfl (g1.mono e1)) (ea_cons (ed_var rfl (g2.mono e1)) ea_nil)) ⟨i, j, hO.big, rfl, rfl⟩ fun H3 e3 hP3 => ?_
  have hP3' := hP3
  obtain ⟨sv, av, cv, hV, q1, q2, q3⟩ := hP3
  refine b_ret (K := K) (H0 := H3) (Ex.refl H3) (ed_is (ed_lst (ea_cons (ed_cb (ea_cons (ed_ev (ev_pairs T (Evl.ev_var rfl) hV) q3) ea_nil) rc_len) ea_nil) (by simp)) ?_) fun v H4 e4 hv => hq v H4 (((Ex.exb (e0.trans e1)).trans e3).trans (Ex.exb e4)) (hP3'.mono e4) hv
  rw [List.length_map, List.length_append]
  rfl
theorem filter_one {α : Type} [BEq α] [LawfulBEq α] : ∀ (l : List α) (x : α), l.Nodup → x ∈ l → (l.filter fun y => y != x).length = l.length - 1
  | [], x, _, h => by simp at h
  | a :: r, x, hn, h => by
    obtain ⟨h1, h2⟩ := List.nodup_cons.mp hn
    rw [List.filter_cons]
    by_cases e : a = x
    · subst e
      have : (r.filter fun y => y != a) = r := List.filter_eq_self.mpr fun y hy => by
        have : y ≠ a := fun z => h1 (z ▸ hy)
        simpa using this
      simp [this]
    · have hx : x ∈ r := by
        rcases List.mem_cons.mp h with z | z
        · exact absurd z.symm e
        · exact z
      have ih := filter_one r x h2 hx
      have hp : 0 < r.length := List.length_pos_of_mem hx
      rw [if_pos (by simpa using e), List.length_cons, List.length_cons, ih]
      omega
theorem sc_f_disconnect : FnScope ["plan", "numbers", "lists", "one", "other"] ["plan", "numbers", "lists"] (defScope s_f_disconnect) := ⟨rfl, rfl, rfl, by decide +kernel, rfl, by decide +kernel, by decide +kernel⟩
theorem f_disconnect (T : Txt K mg) : OkF P w K mg base 3 "disconnect" ["plan", "numbers", "lists"] (spD K 6) := by
  refine okD T.d_disconnect sc_f_disconnect rfl (fun _ _ _ _ _ _ us hl => match us, hl with | [_, _, _], _ => rfl) fun f cdv A outer sh H p nv lv s ns ls op E hr hP hO hn hl hz hd => ?_
  cases hd
  rename_i i j
  refine ⟨_, (pss_cons (ps_par (i := 3) (j := 4) rfl sc_f_disconnect.nd rfl rfl (by decide) rfl rfl (pa_cons (pe_ix (r := rIxL K) ix_list (pv 1) pe_int (fun _ _ => rfl)) (pa_cons (pe_ix (r := rIxL K) ix_list (pv 1) pe_int (fun _ _ => rfl)) pa_nil)) rfl)
    (pss_cons (ps_if (PW.pt (pw_or (pt_not (pt_val (pe_methF (K := K) (m_has_block T) T.cls (hr.mono (by decide)) (pv 0) (pa_cons (pv 3) pa_nil)))) (pw_or1 (pt_not (pt_val (pe_methF (K := K) (m_has_block T) T.cls (hr.mono (by decide)) (pv 0) (pa_cons (pv 4) pa_nil))))))) (pss_one (ps_ret (pe_lst (pa_cons (pe_gi rfl T.i_NO_SUCH_BLOCK) pa_nil)))) pss_nil)
    (pss_cons (ps_if (pt_not (pt_val (pe_methF (K := K) (m_are_adjacent T) T.cls (hr.mono (by decide)) (pv 0) (pa_cons (pv 3) (pa_cons (pv 4) pa_nil))))) (pss_one (ps_ret (pe_lst (pa_cons (pe_gi rfl T.i_NOTHING_THERE) pa_nil)))) pss_nil)
    (pss_cons (ps_expr (pe_methF (K := K) (m_disconnect T) T.cls (hr.mono (by decide)) (pv 0) (pa_cons (pv 3) (pa_cons (pv 4) pa_nil))))
    (pss_one (ps_ret (pe_lst (pa_cons (pe_callB call_len_seq (by rfl) T.b_len PySem.boot_len (pa_cons (pe_fld (pv 0) rfl) pa_nil)) pa_nil)))))))), fun Q hq => ?_⟩
  refine b_par (K := K) (Ex.refl H) (by walk_at "ea") fun v1 v2 H0 e0 g1 g2 => ?_
  have hP0 := hP.mono e0
  refine b_when (K := K) (Ex.refl H0) (et_or (et_not (et_b (ed_meth (Evl.ev_var rfl) hP0 (by walk_at "ea") ⟨i, rfl, rfl⟩))) fun _ => et_not (et_b (ed_meth (Evl.ev_var rfl) hP0 (by walk_at "ea") ⟨j, rfl, rfl⟩))) (fun hb H1 e1 => ?_) (fun hb H1 e1 => ?_)
  · have h : ¬ i < s.blocks.length ∨ ¬ j < s.blocks.length := by simpa using hb
    exact b_ret (e0.trans e1) (by walk_at "ed") (same_done hq hP (out := [-2]) (by unfold dStep; rw [run6, if_pos (h.imp noB noB)]; rfl))
  have h : i < s.blocks.length ∧ j < s.blocks.length := by simpa using hb
  have hnb : ¬ (Kv437.Planner.isBlock ⟨s⟩ i = false ∨ Kv437.Planner.isBlock ⟨s⟩ j = false) := fun z => z.elim (isB h.1) (isB h.2)
  refine b_when (K := K) e1 (et_not (et_b (ed_meth (Evl.ev_var rfl) hP0 (by walk_at "ea") ⟨i, j, rfl, rfl⟩))) (fun hb3 H1 e1 => ?_) (fun hb3 H1 e1 => ?_)
  · have hb4 : adj s i j = false := by simpa using hb3
    exact b_ret (e0.trans e1) (by walk_at "ed") (same_done hq hP (out := [-6]) (by unfold dStep; rw [run6, if_neg hnb, if_pos (by show s.areAdjacent i j = false; rw [adj_spec hO]; exact hb4)]; rfl))
  have hb4 : adj s i j = true := by simpa using hb3
  have hs : dStep (.disconnect i j) s = ({ s with adjacency := s.adjacency.filter fun pr => pr != (min i j, max i j) }, [((s.adjacency.length - 1 : Nat) : Int)]) := by
    unfold dStep
    rw [run6, if_neg hnb, if_neg (by show ¬ s.areAdjacent i j = false; rw [adj_spec hO, hb4]; exact fun z => Bool.noConfusion z)]
    rfl
  rw [hs] at hq
  have hP1 := hP0.mono e1
  refine b_methM (Evl.ev_var rfl) hP1 (ea_cons (ed_var rfl (g1.mono e1)) (ea_cons (ed_var rfl (g2.mono e1)) ea_nil)) ⟨i, j, hO.big, rfl, rfl⟩ fun H3 e3 hP3 => ?_
  have hP3' := hP3
  obtain ⟨sv, av, cv, hV, q1, q2, q3⟩ := hP3
  refine b_ret (K := K) (H0 := H3) (Ex.refl H3) (ed_is (ed_lst (ea_cons (ed_cb (ea_cons (ed_ev (ev_pairs T (Evl.ev_var rfl) hV) q3) ea_nil) rc_len) ea_nil) (by simp)) ?_) fun v H4 e4 hv => hq v H4 (((Ex.exb (e0.trans e1)).trans e3).trans (Ex.exb e4)) (hP3'.mono e4) hv
  rw [List.length_map]
  have hm : (min i j, max i j) ∈ s.adjacency := by
    unfold adj at hb4
    obtain ⟨z, hz, e⟩ := List.any_eq_true.mp hb4
    rw [← of_decide_eq_true e]
    exact hz
  show PyData.list [.int (((s.adjacency.filter fun pr => pr != (min i j, max i j)).length : Nat) : Int)] = _
  rw [filter_one _ _ hO.nd hm]
  rfl
/-! 7 swap_teams -/
theorem sc_f_swap_teams : FnScope ["plan", "numbers", "lists"] ["plan", "numbers", "lists"] (defScope s_f_swap_teams) := ⟨rfl, rfl, rfl, by decide +kernel, rfl, by decide +kernel, by decide +kernel⟩
theorem f_swap_teams (T : Txt K mg) : OkF P w K mg base 3 "swap_teams" ["plan", "numbers", "lists"] (spD K 7) := by
  refine okD T.d_swap_teams sc_f_swap_teams rfl (fun _ _ _ _ _ _ us hl => match us, hl with | [_, _, _], _ => rfl) fun f cdv A outer sh H p nv lv s ns ls op E hr hP hO hn hl hz hd => ?_
  cases hd
  refine ⟨_, (pss_cons (ps_expr (pe_methF0 (m_swap_teams T) T.cls (hr.mono (by decide)) (pv 0)))
    (pss_one (ps_ret (pe_lst (pa_cons (pe_methF0 (m_block_count T) T.cls (hr.mono (by decide)) (pv 0)) pa_nil))))), fun Q hq => ?_⟩
  have hs : dStep .swapTeams s = (swapS s, [(s.blocks.length : Int)]) := rfl
  rw [hs] at hq
  refine b_methM (Evl.ev_var rfl) hP ea_nil ⟨hO.big, rfl, rfl⟩ fun H2 e2 hP2 => ?_
  refine b_ret (K := K) (H0 := H2) (Ex.refl H2) (ed_is (ed_lst (ea_cons (ed_meth (Evl.ev_var rfl) hP2 ea_nil ⟨rfl, rfl⟩) ea_nil) (by simp)) ?_) fun v H3 e3 hv => hq v H3 (e2.trans (Ex.exb e3)) (hP2.mono e3) hv
  show PyData.list [.int (((s.blocks.map _).length : Nat) : Int)] = PyData.list [.int (s.blocks.length : Int)]
  rw [List.length_map]
/-! 21 fix_best -/
theorem fix_eq (s : Stand) (a : List Nat) : ((s.blocks.zip a).map fun q => ({ q.1 with assignment := if q.2 = 0 then 3 else q.2 } : Block)) = (s.blocks.zip (a.map fixA)).map fun q => { q.1 with assignment := q.2 } := by
  rw [List.zip_map_right, List.map_map]
  rfl
theorem sc_f_fix_best : FnScope ["plan", "numbers", "lists", "most", "best", "use"] ["plan", "numbers", "lists"] (defScope s_f_fix_best) := ⟨rfl, rfl, rfl, by decide +kernel, rfl, by decide +kernel, by decide +kernel⟩
theorem f_fix_best (T : Txt K mg) : OkF P w K mg base 5 "fix_best" ["plan", "numbers", "lists"] (spD K 21) := by
  refine okD T.d_fix_best sc_f_fix_best rfl (fun _ _ _ _ _ _ us hl => match us, hl with | [_, _, _], _ => rfl) fun f cdv A outer sh H p nv lv s ns ls op E hr hP hO hn hl hz hd => ?_
  cases hd
  refine ⟨_, (pss_cons (ps_asg (pe_callF (f_best_allocation T) (hr.mono (by decide)) rfl (pa_cons (pe_fld (pv 0) rfl) (pa_cons (pe_fld (pv 0) rfl) (pa_cons (pe_fld (pv 0) rfl) (pa_cons pe_int pa_nil))))) (pg_tup rfl (pgs_cons (pg_name (i := 3) sc_f_fix_best.nd rfl (Or.inl rfl)) (pgs_cons (pg_name (i := 4) sc_f_fix_best.nd rfl (Or.inl rfl)) pgs_nil))))
    (pss_cons (ps_if (pt_cmpR op_eq (pv 3) (pe_gi rfl T.i_NONE_FOUND) (nomark _)) (pss_one (ps_ret (pe_lst (pa_cons (pe_gi rfl T.i_NO_ALLOCATION) pa_nil)))) pss_nil)
    (pss_cons (ps_expr (pe_methF (K := K) (m_use_assignments T) T.cls (hr.mono (by decide)) (pv 0) (pa_cons (pe_lc (own := [("use", 5)]) rfl sc_f_fix_best.nd (pi_list (pv 4)) (blkOk_by (own := [("use", 5)]) (N := ["plan", "numbers", "lists", "most", "best", "use"]) (sc := defScope s_f_fix_best) (by decide +kernel)) (fun _ _ _ _ _ => by exact (pg_name (i := 5) sc_f_fix_best.nd rfl (Or.inl rfl))) (fun _ _ _ _ _ => by exact pts_nil) (fun _ _ _ _ _ => by exact (pe_callF (f_fixed T) (hr.mono (by decide)) rfl (pa_cons (pv 5) pa_nil)))) pa_nil)))
    (pss_one (ps_ret (pe_lst (pa_cons (pv 3) pa_nil))))))), fun Q hq => ?_⟩
  have hP0 := hP
  obtain ⟨sv, av, cv, hV, q1, q2, q3⟩ := hP0
  refine b_unp (K := K) (Ex.refl H) (ed_call (ea_cons (ed_ev (ev_seats T (Evl.ev_var rfl) hV) q1) (ea_cons (ed_ev (ev_assignments T (Evl.ev_var rfl) hV) q2) (ea_cons (ed_ev (ev_pairs T (Evl.ev_var rfl) hV) q3) (ea_cons ed_int ea_nil)))) ⟨SA s, AA s, s.adjacency, 0, hO.nice, rfl, rfl⟩) fun v1 v2 H1 e1 g1 g2 => ?_
  rw [best_eq hO] at g1 g2
  refine b_when (K := K) (Ex.refl H1) (et_t (ed_op (ed_var rfl g1) ed_int rd_eq)) (fun hb H2 e2 => ?_) (fun hb H2 e2 => ?_)
  · have h := of_decide_eq_true hb
    cases hbst : s.best 0 with
    | none =>
      exact b_ret (e1.trans e2) (by walk_at "ed") (same_done hq hP (out := [-33]) (by unfold dStep; rw [run21, hbst]; rfl))
    | some a =>
      rw [hbst] at h
      exact absurd h (by show ¬ ((s.soldSeats a : Nat) : Int) = -1; omega)
  · have h := of_decide_eq_false hb
    cases hbst : s.best 0 with
    | none =>
      rw [hbst] at h
      exact absurd rfl h
    | some a =>
      rw [hbst] at g1 g2
      obtain ⟨u1, u2⟩ := best_uses hO hbst
      have z6 := hO.n6
      have hs : dStep .fixBest s = (withAs s (a.map fixA), [(s.soldSeats a : Int)]) := by
        unfold dStep
        rw [run21, hbst]
        dsimp only
        rw [fix_eq]
        rfl
      rw [hs] at hq
      have hP2 := hP.mono (e1.trans e2)
      refine b_methM (Evl.ev_var rfl) hP2 (ea_cons (ed_lcM (l := a) (c := nI) (fun u => nI (fixA u)) (wd_list (ed_var rfl (g2.mono e2))) (by omega) fun u hu x H4 e4 hx => ⟨_, fun Q q => q, rfl, rfl, ed_call (by walk_at "ea") ⟨u, rfl, rfl⟩⟩) ea_nil)
        ⟨a.map fixA, by rw [List.length_map]; exact u1, by show [PyData.list (a.map _)] = [PyData.list ((a.map fixA).map nI)]; rw [List.map_map]; rfl, rfl⟩ fun H3 e3 hP3 => ?_
      exact b_ret (K := K) (H0 := H3) (Ex.refl H3) (ed_lst (ea_cons (ed_var rfl ((g1.mono e2).kp (hP2.kp e3))) ea_nil) (by simp)) fun v H4 e4 hv => hq v H4 (((Ex.exb (e1.trans e2)).trans e3).trans (Ex.exb e4)) (hP3.mono e4) hv
end
end Sb
/-! ### L. the calls that change nothing -/
namespace Sb
open PySem PySem.Spec PyProof.Rows L2
open Evl (Ex Ev EvT EvL)
open Kv437 (Stand Block Operation)
local macro_rules | `(tactic| walk_at "rd") => `(tactic| first | exact rd_add | exact rd_sub | exact rd_lt | exact rd_le | exact rd_gt | exact rd_ge | exact rd_eq | exact rd_ne | exact rd_ixL (j := 0) rfl | exact rd_ixL (j := 1) rfl)
local macro_rules | `(tactic| walk_at "ed") => `(tactic| first
  | exact ed_int | exact ed_bl
  | (refine' ed_var rfl ?h; (case h => assumption))
  | (refine' ed_op ?a ?b ?c; (case a => walk_at "ed"); (case b => walk_at "ed"); (case c => walk_at "rd"))
  | (refine' ed_cb ?a ?c; (case a => walk_at "ea"); (case c => first | exact rc_len | exact rc_min | exact rc_max | exact rc_list))
  | (refine' ed_notV ?a; walk_at "ed")
  | (refine' ed_tup ?a ?b; (case a => walk_at "ea"); (case b => simp))
  | (refine' ed_lst ?a ?b; (case a => walk_at "ea"); (case b => simp)))
local macro_rules | `(tactic| walk_at "ea") => `(tactic| first | exact ea_nil | (refine' ea_cons ?a ?b; (case a => walk_at "ed"); (case b => walk_at "ea")))
local macro_rules | `(tactic| walk_at "et") => `(tactic| first
  | (refine' et_not ?a; (case a => walk_at "et"))
  | (refine' et_t ?a; (case a => walk_at "ed"))
  | (refine' et_b ?a; (case a => walk_at "ed")))

/-- what a call that changes nothing answers -/
def Rq (k : Nat) (s : Stand) (ds : List PyData) (d : PyData) : Prop := Ok s ∧ ∃ ns ls op, Dd k ns ls op ∧ (∀ l ∈ ls, l.length ≤ 30000) ∧ ds = [nL ns, aL ls] ∧ d = iI (dStep op s).2
theorem rq_len {k : Nat} (s : Stand) (ds : List PyData) (d : PyData) (h : Rq k s ds d) : ds.length + 1 = 3 := by
  obtain ⟨_, ns, ls, op, _, _, rfl, _⟩ := h
  rfl
section
variable {P : Program} {w : World} {K : PySem.W.Frag} {mg : Str → Option Value} {base : Heap}
theorem OkF.imp {k : Nat} {x : Str} {ps : List Str} {sp sp' : Sp} (c : OkF P w K mg base k x ps sp) (h : ∀ vs H Q E, sp' vs H Q E → sp vs H Q E) : OkF P w K mg base k x ps sp' := by
  obtain ⟨fd, F, b, m, kp⟩ := c
  exact ⟨fd, F.imp h, b, m, kp⟩
theorem toD {k n : Nat} {x : Str} {ps : List Str} (c : OkF P w K mg base k x ps (spPl K (Rq n))) (hs : ∀ ns ls op s, Dd n ns ls op → (dStep op s).1 = s) : OkF P w K mg base k x ps (spD K n) := by
  refine c.imp fun vs H Q E h => ?_
  obtain ⟨p, nv, lv, s, ns, ls, op, rfl, hP, hO, hn, hl, hz, hd, q⟩ := h
  refine ⟨p, [nv, lv], s, [nL ns, aL ls], _, rfl, hP, .cons hn (.cons hl .nil), ⟨hO, ns, ls, op, hd, hz, rfl, rfl⟩, fun v H' e hv => q v H' (Ex.exb e) ?_ hv⟩
  rw [hs ns ls op s hd]
  exact hP.mono e
theorem okQ {x : Str} {st : Stmt} {N ps : List Str} {k n : Nat} (D : Df K mg x st) (S : FnScope N ps (defScope st)) (h3 : ps.length = 3)
    (bind : ∀ (kV doc pm : Value) (an : Option Addr) (cdv ct : Value) (us : List Value), us.length = ps.length → bindArgs (PySem.W.fnOf x x (defArgs st) (defBody st) (defScope st) .none kV doc pm an cdv ct) ⟨us, []⟩ = pure (ps.zip us))
    (hbody : ∀ (f : Addr) (cdv : Value) (A : Around) (outer : List Env) (sh : Shared) (H : Hp) (p : Addr) (nv lv : V) (s : Stand) (ns : List Nat) (ls : List (List Nat)) (op : Operation) (E : XK), Room k (A.deeper (envOfC x (defScope st) sh.heap.objs.size f cdv)) →
      PlanAt K H p s → Ok s → Dq K H nv (nL ns) → Dq K H lv (aL ls) → (∀ l ∈ ls, l.length ≤ 30000) → Dd n ns ls op →
      ∃ t, PSs (cxOf CX0 P w K mg base N x (defScope st) f cdv A outer sh H E).nox (defBody st) t ∧ ∀ Q : VK, (∀ out, (dStep op s).2 = out → ∀ v H', Ex H H' → Dq K H' v (iI out) → Q v H') → t { nx := fun _ H' => Q .non H', rt := Q } (start N [.ref p, nv, lv]) H) : OkF P w K mg base (k + 1) x ps (spPl K (Rq n)) := by
  refine okPl D S (fun s ds d h => by rw [rq_len s ds d h]; exact h3.symm) bind fun f cdv A outer sh H p vs s ds d E hr hP hd hR => ?_
  obtain ⟨hO, ns, ls, op, hdd, hz, rfl, rfl⟩ := hR
  obtain ⟨nv, lv, rfl, hn, hl⟩ := hd.two
  obtain ⟨t, ht, hq⟩ := hbody f cdv A outer sh H p nv lv s ns ls op E hr hP hO hn hl hz hdd
  refine ⟨t, ht, fun Q q => hq Q fun out eo v H' e hv => q v H' e ?_⟩
  rw [eo]
  exact hv
theorem natI (l : List Nat) : (l.map Int.ofNat).map PyData.int = l.map nI := by
  rw [List.map_map]
  rfl
/-- xs.extend(ys), ys new -/
theorem s_ext {σ : L2.St} {H : Hp} {ta te : TE} {D : Ends} {l : Addr} {xs ys : List V} (hl : H l = some (.lst xs)) (ha : Ev ta σ H (.ref l)) (h : EvL te σ H ys) (hz : xs.length + ys.length ≤ 16000000) (k : ∀ H1, Ex H H1 → D.nx σ (upd H1 l (.lst (xs ++ ys)))) :
    tDrop (tBM K "list" rExtend ta (tCons te tNil)) D σ H := ha H (Ex.refl H) _ fun H1 e1 =>
  ⟨Or.inl ⟨rfl, xs, Evl.sq_of (e1 l _ hl)⟩, h H1 e1 _ fun p H2 hp e2 h2 => ⟨l, p, xs, ys, rfl, rfl, e2 l _ (e1 l _ hl), h2, Nat.le_trans hz (by decide), k H2 (e1.trans e2)⟩⟩
/-- a for over what stood in H -/
theorem q_forWE {σ : L2.St} {H H1 : Hp} {wi : TI} {items : List PyData} {g : TG} {tb tz : TS} {D : Ends} (h : WE K wi σ H items) (e : Ex H H1) (Pv : Nat → L2.St → Hp → Prop) (h0 : ∀ H2, Ex H1 H2 → Pv 0 σ H2)
    (hG : ∀ i σ' H3, Pv i σ' H3 → Ex H H3)
    (hs : ∀ i d x σ' H3 H4, items[i]? = some d → Pv i σ' H3 → Ex H3 H4 → Dq K H4 x d → g x σ' H4 fun σ2 H2 => tb { D with nx := Pv (i + 1), ct := Pv (i + 1), bk := tz D } σ2 H2)
    (hd : ∀ σ' H3, Pv items.length σ' H3 → tz D σ' H3) : tSeq (tFor wi g tb) tz D σ H1 :=
  h H1 e _ fun J H2 e2 w => s_for (D := { D with nx := tz D }) w Pv (h0 H2 e2) hG hs hd
/-! 8 list_blocks -/
theorem sc_f_list_blocks : FnScope ["plan", "numbers", "lists", "found", "seats", "assignment"] ["plan", "numbers", "lists"] (defScope s_f_list_blocks) := ⟨rfl, rfl, rfl, by decide +kernel, rfl, by decide +kernel, by decide +kernel⟩
theorem f_list_blocks (T : Txt K mg) : OkF P w K mg base 2 "list_blocks" ["plan", "numbers", "lists"] (spPl K (Rq 8)) := by
  refine okQ T.d_list_blocks sc_f_list_blocks rfl (fun _ _ _ _ _ _ us hl => match us, hl with | [_, _, _], _ => rfl) fun f cdv A outer sh H p nv lv s ns ls op E hr hP hO hn hl hz hd => ?_
  cases hd
  refine ⟨_, (pss_cons (ps_set (i := 3) sc_f_list_blocks.nd rfl (Or.inl rfl) (pe_lst (pa_cons (pe_methF0 (m_block_count T) T.cls (hr.mono (by decide)) (pv 0)) pa_nil)))
    (pss_cons (ps_for PassesOwn.never rfl (pi_zip (by rfl) T.b_zip (pa_cons (pe_fld (pv 0) rfl) (pa_cons (pe_fld (pv 0) rfl) pa_nil))) (pg_tup rfl (pgs_cons (pg_name (i := 4) sc_f_list_blocks.nd rfl (Or.inl rfl)) (pgs_cons (pg_name (i := 5) sc_f_list_blocks.nd rfl (Or.inl rfl)) pgs_nil))) (pss_one (ps_expr (pe_bm PySem.F.plainAttrs_list PySem.F.slot_list_extend PySem.F.type_list_extend mt_extend (pv 3) (pa_cons (pe_lst (pa_cons (pv 4) (pa_cons (pv 5) pa_nil))) pa_nil)))))
    (pss_one (ps_ret (pv 3))))), fun Q hq => ?_⟩
  have hs : (dStep .listBlocks s).2 = ((s.blocks.length :: s.blocks.flatMap fun b => [b.seats, b.assignment]).map Int.ofNat) := rfl
  have hq := hq _ hs
  have z6 := hO.n6
  have hP0 := hP
  obtain ⟨sv, av, cv, hV, q1, q2, q3⟩ := hP
  refine (ed_meth (R := R_block_count) (Evl.ev_var rfl) hP0 ea_nil ⟨rfl, rfl⟩).go fun vc H0 e0 hc => ?_
  have hc' := hc.int_of
  subst hc'
  refine ⟨by show 1 ≤ sizeLine; decide, fun l hl0 => ?_⟩
  have e1 := e0.trans (Evl.Ex.new (o := .lst [V.int (s.blocks.length : Int)]) hl0)
  have hfl := Evl.fresh_back e0 hl0
  refine q_forWE (K := K) (H := H) (items := ((SA s).zip (AA s)).map fun q => .tuple [nI q.1, nI q.2]) (we_zipM (ev_seats T (Evl.ev_var (i := 0) rfl) hV) (ev_assignments T (Evl.ev_var (i := 0) rfl) hV) q1 q2) e1
    (fun i σ' H' => (∃ a4 a5, σ' = [some (.ref p), some nv, some lv, some (.ref l), a4, a5]) ∧ Ex H H' ∧ H' l = some (.lst (natV (s.blocks.length :: (s.blocks.take i).flatMap fun b => [b.seats, b.assignment])))) (fun H2 e2 => ⟨⟨_, _, rfl⟩, e1.trans e2, e2 _ _ upd_same⟩) (fun _ _ _ p => p.2.1) ?_ ?_
  · rintro i d x σ' H3 H4 hi ⟨⟨a4, a5, rfl⟩, e3, h3⟩ e4 hx
    obtain ⟨q, hqi, rfl⟩ := map_at hi
    obtain ⟨x1, y1, hx1, hy1, hg⟩ := g_pair (i := 4) (j := 5) hx
    have hbq : ∃ b, s.blocks[i]? = some b ∧ q = (b.seats, b.assignment) := by
      obtain ⟨h1, h2⟩ := List.getElem?_zip_eq_some.mp hqi
      rw [List.getElem?_map] at h1 h2
      cases hb : s.blocks[i]? with
      | none => rw [hb] at h1; cases h1
      | some b =>
        rw [hb] at h1 h2
        exact ⟨b, rfl, Prod.ext (Option.some.inj h1).symm (Option.some.inj h2).symm⟩
    obtain ⟨b, hb, rfl⟩ := hbq
    have hx1' := hx1.int_of
    have hy1' := hy1.int_of
    subst hx1' hy1'
    refine hg _ _ ?_
    have hlen : ((s.blocks.take i).flatMap fun b => [b.seats, b.assignment]).length ≤ 12 := by
      have : ∀ l : List Block, (l.flatMap fun b => [b.seats, b.assignment]).length = 2 * l.length := by
        intro l
        induction l with
        | nil => rfl
        | cons a r ih => rw [List.flatMap_cons, List.length_append, ih]; show 2 + 2 * r.length = 2 * (r.length + 1); omega
      rw [this, List.length_take]
      omega
    refine s_ext (e4 _ _ h3) (Evl.ev_var rfl) (Evl.el_lst (Evl.ea_cons (Evl.ev_var rfl) (Evl.ea_cons (Evl.ev_var rfl) Evl.ea_nil)) (by show 2 ≤ 100000; decide)) ?_ fun H5 e5 => ⟨⟨_, _, rfl⟩, Evl.Ex.mut ((e3.trans e4).trans e5) hfl, ?_⟩
    · rw [List.length_map, List.length_cons]
      show _ + 1 + 2 ≤ _
      omega
    · rw [upd_same, take_more hb, List.flatMap_append]
      congr 2
      simp
  · rintro σ' H3 ⟨⟨a4, a5, rfl⟩, e3, h3⟩
    have hz2 : ((((SA s).zip (AA s)).map fun q => PyData.tuple [nI q.1, nI q.2]).length) = s.blocks.length := by
      rw [List.length_map, List.length_zip, List.length_map, List.length_map, Nat.min_self]
    rw [hz2, List.take_length] at h3
    refine ⟨_, rfl, hq _ _ e3 ?_⟩
    show Dq K H3 (.ref l) (.list (((s.blocks.length :: s.blocks.flatMap fun b => [b.seats, b.assignment]).map Int.ofNat).map PyData.int))
    rw [natI]
    exact dq_nats h3
/-! 9 neighbors -/
theorem sc_f_neighbors : FnScope ["plan", "numbers", "lists", "block", "found", "other"] ["plan", "numbers", "lists"] (defScope s_f_neighbors) := ⟨rfl, rfl, rfl, by decide +kernel, rfl, by decide +kernel, by decide +kernel⟩
theorem f_neighbors (T : Txt K mg) : OkF P w K mg base 3 "neighbors" ["plan", "numbers", "lists"] (spPl K (Rq 9)) := by
  refine okQ T.d_neighbors sc_f_neighbors rfl (fun _ _ _ _ _ _ us hl => match us, hl with | [_, _, _], _ => rfl) fun f cdv A outer sh H p nv lv s ns ls op E hr hP hO hn hl hz hd => ?_
  cases hd
  rename_i i
  refine ⟨_, (pss_cons (ps_set (i := 3) sc_f_neighbors.nd rfl (Or.inr rfl) (pe_ix (r := rIxL K) ix_list (pv 1) pe_int (fun _ _ => rfl)))
    (pss_cons (ps_if (pt_not (pt_val (pe_methF (K := K) (m_has_block T) T.cls (hr.mono (by decide)) (pv 0) (pa_cons (pv 3) pa_nil)))) (pss_one (ps_ret (pe_lst (pa_cons (pe_gi rfl T.i_NO_SUCH_BLOCK) pa_nil)))) pss_nil)
    (pss_cons (ps_setLc (i := 4) (hc := rfl) (hN := sc_f_neighbors.nd) (hy := rfl) (hyl := rfl) (hsw := sw_true rfl rfl rfl (by decide +kernel)) (own := [("other", 5)]) (pi_range1 (by rfl) T.b_range (pa_cons (pe_methF0 (m_block_count T) T.cls (hr.mono (by decide)) (pv 0)) pa_nil)) (blkOk_by (own := [("other", 5)]) (N := ["plan", "numbers", "lists", "block", "found", "other"]) (sc := defScope s_f_neighbors) (by decide +kernel)) (fun _ _ _ _ _ => by exact (pg_name (i := 5) sc_f_neighbors.nd rfl (Or.inl rfl))) (fun _ _ _ _ _ => by exact (pts_one (pt_val (pe_methF (K := K) (m_are_adjacent T) T.cls (hr.mono (by decide)) (pv 0) (pa_cons (pv 3) (pa_cons (pv 5) pa_nil)))))) (fun _ _ _ _ _ => by exact (pv 5)))
    (pss_one (ps_ret (pe_op op_cat (pe_lst (pa_cons (pe_callB call_len_seq (by rfl) T.b_len PySem.boot_len (pa_cons (pv 4) pa_nil)) pa_nil)) (pv 4))))))), fun Q hq => ?_⟩
  have z6 := hO.n6
  refine b_set (K := K) (Ex.refl H) (by walk_at "ed") fun vb H0 e0 hb => ?_
  have hP0 := hP.mono e0
  refine b_when (K := K) (Ex.refl H0) (et_not (et_b (ed_meth (Evl.ev_var rfl) hP0 (by walk_at "ea") ⟨i, rfl, rfl⟩))) (fun hb1 H1 e1 => ?_) (fun hb1 H1 e1 => ?_)
  · have h : ¬ i < s.blocks.length := by simpa using hb1
    exact b_ret (K := K) (d := iI [-2]) (e0.trans e1) (by walk_at "ed") (hq [-2] (by unfold dStep; rw [run9, if_pos (noB h)]; rfl))
  have h : i < s.blocks.length := by simpa using hb1
  refine b_set (K := K) (d := nL ((List.range s.blocks.length).filter fun j => adj s i j)) e1 (ed_is (ed_lc (l := List.range s.blocks.length) (c := fun (j : Nat) => PyData.int (j : Int)) (fun j => if adj s i j = true then some (nI j) else none)
    (we_rng (n := s.blocks.length) (ea_cons (ed_meth (Evl.ev_var rfl) hP0 ea_nil ⟨rfl, rfl⟩) ea_nil) (by omega)).wd (by rw [List.length_range]; omega) fun j hj x H4 e4 hx => ?_) ?_) fun vf H2 e2 hf => ?_
  · refine ⟨_, fun Q q => q, rfl, et_is (et_b (ed_meth (Evl.ev_var rfl) (hP0.mono e4) (ea_cons (ed_var rfl (hb.mono e4)) (ea_cons (ed_var rfl hx) ea_nil)) ⟨i, j, rfl, rfl⟩)) ?_, fun r hr => ?_⟩
    · cases adj s i j <;> rfl
    · cases ha : adj s i j
      · rw [ha, if_neg Bool.false_ne_true] at hr
        cases hr
      · rw [ha, if_pos rfl] at hr
        cases hr
        exact ⟨rfl, ed_var rfl hx⟩
  · rw [fm_filter]
  · have hlen : ((List.range s.blocks.length).filter fun j => adj s i j).length ≤ 6 := Nat.le_trans (List.length_filter_le ..) (by rw [List.length_range]; exact z6)
    have hs : (dStep (.neighbors i) s).2 = ((((List.range s.blocks.length).filter fun j => adj s i j).length :: (List.range s.blocks.length).filter fun j => adj s i j).map Int.ofNat) := by
      unfold dStep
      rw [run9, if_neg (isB h)]
      have e : s.areAdjacent i = fun j => adj s i j := funext fun j => adj_spec hO i j
      rw [e]
      rfl
    refine b_ret (K := K) (H0 := H2) (Ex.refl H2) (ed_is (ed_op (ed_lst (ea_cons (ed_cb (ea_cons (ed_var rfl hf) ea_nil) rc_len) ea_nil) (by show 1 ≤ 100000; decide)) (ed_var rfl hf) (rd_cat ?_)) ?_) fun v H3 e3 hv => hq _ hs v H3 ((e0.trans e2).trans e3) hv
    · rw [List.length_map]
      show 1 + _ ≤ _
      omega
    · rw [List.length_map]
      show _ = PyData.list ((((List.range s.blocks.length).filter fun j => adj s i j).length :: (List.range s.blocks.length).filter fun j => adj s i j).map Int.ofNat |>.map PyData.int)
      rw [natI]
      rfl
/-! best_with, 10, 12 -/
def bestOut (s : Stand) (k : Nat) : List Int := match s.best k with
  | none => [-33]
  | some a => (s.soldSeats a : Int) :: a.map Int.ofNat
def R_best_with (s : Stand) (ds : List PyData) (d : PyData) : Prop := ∃ k : Nat, Ok s ∧ ds = [nI k] ∧ d = iI (bestOut s k)
theorem sc_f_best_with : FnScope ["plan", "least_away", "most", "best"] ["plan", "least_away"] (defScope s_f_best_with) := ⟨rfl, rfl, rfl, by decide +kernel, rfl, by decide +kernel, by decide +kernel⟩
theorem f_best_with (T : Txt K mg) : OkF P w K mg base 5 "best_with" ["plan", "least_away"] (spPl K R_best_with) := by
  refine okPl T.d_best_with sc_f_best_with (fun s ds d h => by obtain ⟨_, _, rfl, _⟩ := h; rfl) (fun _ _ _ _ _ _ us hl => match us, hl with | [_, _], _ => rfl) fun f cdv A outer sh H p vs s ds d E hr hP hd hR => ?_
  obtain ⟨k, hO, rfl, rfl⟩ := hR
  obtain ⟨x, rfl, hx⟩ := hd.one
  refine ⟨_, (pss_cons (ps_asg (pe_callF (f_best_allocation T) (hr.mono (by decide)) rfl (pa_cons (pe_fld (pv 0) rfl) (pa_cons (pe_fld (pv 0) rfl) (pa_cons (pe_fld (pv 0) rfl) (pa_cons (pv 1) pa_nil))))) (pg_tup rfl (pgs_cons (pg_name (i := 2) sc_f_best_with.nd rfl (Or.inl rfl)) (pgs_cons (pg_name (i := 3) sc_f_best_with.nd rfl (Or.inl rfl)) pgs_nil))))
    (pss_one (ps_ret (pe_op op_cat (pe_callF (f_seats_or_refusal T) (hr.mono (by decide)) rfl (pa_cons (pv 2) pa_nil)) (pv 3))))), fun Q hq => ?_⟩
  have z6 := hO.n6
  have hP0 := hP
  obtain ⟨sv, av, cv, hV, q1, q2, q3⟩ := hP0
  refine b_unp (K := K) (Ex.refl H) (ed_call (ea_cons (ed_ev (ev_seats T (Evl.ev_var rfl) hV) q1) (ea_cons (ed_ev (ev_assignments T (Evl.ev_var rfl) hV) q2) (ea_cons (ed_ev (ev_pairs T (Evl.ev_var rfl) hV) q3) (ea_cons (ed_var rfl hx) ea_nil)))) ⟨SA s, AA s, s.adjacency, k, hO.nice, rfl, rfl⟩) fun v1 v2 H1 e1 g1 g2 => ?_
  rw [best_eq hO] at g1 g2
  refine b_ret (K := K) (H0 := H1) (Ex.refl H1) (ed_is (ed_op (ed_call (ea_cons (ed_var rfl g1) ea_nil) ⟨_, rfl, rfl⟩) (ed_var rfl g2) (rd_cat ?_)) ?_) fun v H2 e2 hv => hq v H2 (e1.trans e2) hv
  · rw [List.length_map]
    cases hb : s.best k with
    | none => show 1 + 0 ≤ _; decide
    | some a =>
      have := (best_uses hO hb).1
      show 1 + a.length ≤ _
      omega
  · unfold bestOut
    cases hb : s.best k with
    | none => rfl
    | some a =>
      show PyData.list ([.int (orRef ((s.soldSeats a : Nat) : Int))] ++ a.map nI) = PyData.list (.int (s.soldSeats a : Int) :: (a.map Int.ofNat).map PyData.int)
      rw [natI, orRef, if_neg (by omega)]
      rfl
theorem best_out (s : Stand) (k : Nat) (op : Operation) (h : Kv437.Planner.run ⟨s⟩ op = (⟨s⟩, Kv437.allocationResponse s (s.best k))) : (dStep op s).2 = bestOut s k := by
  unfold dStep
  rw [h]
  unfold bestOut Kv437.allocationResponse mkR
  cases s.best k <;> rfl
theorem sc_f_tell_best_allocation : FnScope ["plan", "numbers", "lists"] ["plan", "numbers", "lists"] (defScope s_f_tell_best_allocation) := ⟨rfl, rfl, rfl, by decide +kernel, rfl, by decide +kernel, by decide +kernel⟩
theorem f_tell_best_allocation (T : Txt K mg) : OkF P w K mg base 6 "tell_best_allocation" ["plan", "numbers", "lists"] (spPl K (Rq 10)) := by
  refine okQ T.d_tell_best_allocation sc_f_tell_best_allocation rfl (fun _ _ _ _ _ _ us hl => match us, hl with | [_, _, _], _ => rfl) fun f cdv A outer sh H p nv lv s ns ls op E hr hP hO hn hl hz hd => ?_
  cases hd
  refine ⟨_, (pss_one (ps_ret (pe_callF (f_best_with T) (hr.mono (by decide)) rfl (pa_cons (pv 0) (pa_cons pe_int pa_nil))))), fun Q hq => ?_⟩
  exact b_ret (K := K) (Ex.refl H) (ed_callPl (Evl.ev_var rfl) hP (by walk_at "ea") ⟨0, hO, rfl, rfl⟩) (hq _ (best_out s 0 _ rfl))
theorem sc_f_best_with_away : FnScope ["plan", "numbers", "lists"] ["plan", "numbers", "lists"] (defScope s_f_best_with_away) := ⟨rfl, rfl, rfl, by decide +kernel, rfl, by decide +kernel, by decide +kernel⟩
theorem f_best_with_away (T : Txt K mg) : OkF P w K mg base 6 "best_with_away" ["plan", "numbers", "lists"] (spPl K (Rq 12)) := by
  refine okQ T.d_best_with_away sc_f_best_with_away rfl (fun _ _ _ _ _ _ us hl => match us, hl with | [_, _, _], _ => rfl) fun f cdv A outer sh H p nv lv s ns ls op E hr hP hO hn hl hz hd => ?_
  cases hd
  rename_i k
  refine ⟨_, (pss_one (ps_ret (pe_callF (f_best_with T) (hr.mono (by decide)) rfl (pa_cons (pv 0) (pa_cons (pe_ix (r := rIxL K) ix_list (pv 1) pe_int (fun _ _ => rfl)) pa_nil))))), fun Q hq => ?_⟩
  exact b_ret (K := K) (Ex.refl H) (ed_callPl (Evl.ev_var rfl) hP (by walk_at "ea") ⟨k, hO, rfl, rfl⟩) (hq _ (best_out s k _ rfl))
/-! 11 empty_seats -/
theorem sc_f_empty_seats : FnScope ["plan", "numbers", "lists", "most", "best"] ["plan", "numbers", "lists"] (defScope s_f_empty_seats) := ⟨rfl, rfl, rfl, by decide +kernel, rfl, by decide +kernel, by decide +kernel⟩
theorem f_empty_seats (T : Txt K mg) : OkF P w K mg base 5 "empty_seats" ["plan", "numbers", "lists"] (spPl K (Rq 11)) := by
  refine okQ T.d_empty_seats sc_f_empty_seats rfl (fun _ _ _ _ _ _ us hl => match us, hl with | [_, _, _], _ => rfl) fun f cdv A outer sh H p nv lv s ns ls op E hr hP hO hn hl hz hd => ?_
  cases hd
  refine ⟨_, (pss_cons (ps_asg (pe_callF (f_best_allocation T) (hr.mono (by decide)) rfl (pa_cons (pe_fld (pv 0) rfl) (pa_cons (pe_fld (pv 0) rfl) (pa_cons (pe_fld (pv 0) rfl) (pa_cons pe_int pa_nil))))) (pg_tup rfl (pgs_cons (pg_name (i := 3) sc_f_empty_seats.nd rfl (Or.inl rfl)) (pgs_cons (pg_name (i := 4) sc_f_empty_seats.nd rfl (Or.inl rfl)) pgs_nil))))
    (pss_cons (ps_if (pt_cmpR op_eq (pv 3) (pe_gi rfl T.i_NONE_FOUND) (nomark _)) (pss_one (ps_ret (pe_lst (pa_cons (pe_gi rfl T.i_NO_ALLOCATION) pa_nil)))) pss_nil)
    (pss_one (ps_ret (pe_lst (pa_cons (pe_callF (f_seats_with T) (hr.mono (by decide)) rfl (pa_cons (pe_fld (pv 0) rfl) (pa_cons (pv 4) (pa_cons (pe_gi rfl T.i_EMPTY) pa_nil)))) pa_nil)))))), fun Q hq => ?_⟩
  have hP0 := hP
  obtain ⟨sv, av, cv, hV, q1, q2, q3⟩ := hP0
  refine b_unp (K := K) (Ex.refl H) (ed_call (ea_cons (ed_ev (ev_seats T (Evl.ev_var rfl) hV) q1) (ea_cons (ed_ev (ev_assignments T (Evl.ev_var rfl) hV) q2) (ea_cons (ed_ev (ev_pairs T (Evl.ev_var rfl) hV) q3) (ea_cons ed_int ea_nil)))) ⟨SA s, AA s, s.adjacency, 0, hO.nice, rfl, rfl⟩) fun v1 v2 H1 e1 g1 g2 => ?_
  rw [best_eq hO] at g1 g2
  refine b_when (K := K) (Ex.refl H1) (et_t (ed_op (ed_var rfl g1) ed_int rd_eq)) (fun hb H2 e2 => ?_) (fun hb H2 e2 => ?_)
  · have h := of_decide_eq_true hb
    cases hbst : s.best 0 with
    | none => exact b_ret (K := K) (d := iI [-33]) (e1.trans e2) (by walk_at "ed") (hq [-33] (by unfold dStep; rw [run11, hbst]; rfl))
    | some a =>
      rw [hbst] at h
      exact absurd h (by show ¬ ((s.soldSeats a : Nat) : Int) = -1; omega)
  · have h := of_decide_eq_false hb
    cases hbst : s.best 0 with
    | none =>
      rw [hbst] at h
      exact absurd rfl h
    | some a =>
      rw [hbst] at g1 g2
      obtain ⟨u1, u2⟩ := best_uses hO hbst
      have z6 := hO.n6
      have ht := wsum_total (SA s) a (by rw [List.length_map, u1])
      have hso : s.soldSeats a = wsum (SA s) a fun u => u != 0 := where_eq s a _ (by omega)
      have hs : (dStep .emptySeats s).2 = [((sw (SA s) a 0 : Nat) : Int)] := by
        unfold dStep
        rw [run11, hbst]
        show [((s.totalSeats - s.soldSeats a : Nat) : Int)] = _
        rw [total_eq, ← ht, hso, sw_eq, Nat.add_sub_cancel]
      exact b_ret (K := K) (H0 := H1) e2 (ed_lst (ea_cons (ed_call (ea_cons (ed_ev (ev_seats T (Evl.ev_var rfl) (hV.mono e1)) (q1.mono e1)) (ea_cons (ed_var rfl g2) (ea_cons ed_int ea_nil))) ⟨SA s, a, 0, by rw [List.length_map]; omega, rfl, rfl⟩) ea_nil) (by show 1 ≤ 100000; decide)) fun v H3 e3 hv => hq _ hs v H3 (e1.trans e3) hv
/-! 13 max_away -/
theorem sc_f_max_away : FnScope ["plan", "numbers", "lists"] ["plan", "numbers", "lists"] (defScope s_f_max_away) := ⟨rfl, rfl, rfl, by decide +kernel, rfl, by decide +kernel, by decide +kernel⟩
theorem f_max_away (T : Txt K mg) : OkF P w K mg base 5 "max_away" ["plan", "numbers", "lists"] (spPl K (Rq 13)) := by
  refine okQ T.d_max_away sc_f_max_away rfl (fun _ _ _ _ _ _ us hl => match us, hl with | [_, _, _], _ => rfl) fun f cdv A outer sh H p nv lv s ns ls op E hr hP hO hn hl hz hd => ?_
  cases hd
  refine ⟨_, (pss_one (ps_ret (pe_callF (f_seats_or_refusal T) (hr.mono (by decide)) rfl (pa_cons (pe_callF (f_most_away T) (hr.mono (by decide)) rfl (pa_cons (pe_fld (pv 0) rfl) (pa_cons (pe_fld (pv 0) rfl) (pa_cons (pe_fld (pv 0) rfl) pa_nil)))) pa_nil)))), fun Q hq => ?_⟩
  obtain ⟨sv, av, cv, hV, q1, q2, q3⟩ := hP
  have hs : (dStep .maxAway s).2 = [orRef (mostP (SA s) (AA s) s.adjacency)] := by
    unfold dStep
    rw [run13, most_eq hO]
    cases hv : s.validAllocations 0 with
    | nil => rfl
    | cons a F =>
      show [(((((a :: F).map s.awaySeats).foldl max 0 : Nat)) : Int)] = [orRef ((((a :: F).map s.awaySeats).foldl max 0 : Nat) : Int)]
      rw [orRef, if_neg (by omega)]
  exact b_ret (K := K) (Ex.refl H) (ed_call (ea_cons (ed_call (ea_cons (ed_ev (ev_seats T (Evl.ev_var rfl) hV) q1) (ea_cons (ed_ev (ev_assignments T (Evl.ev_var rfl) hV) q2) (ea_cons (ed_ev (ev_pairs T (Evl.ev_var rfl) hV) q3) ea_nil))) ⟨SA s, AA s, s.adjacency, hO.nice, rfl, rfl⟩) ea_nil) ⟨_, rfl, rfl⟩) (hq _ hs)
/-! 14 tell_is_valid -/
theorem noAl {s : Stand} {a : List Nat} (h : isAl s.blocks.length a = false) : s.isAllocation a = false := h
theorem yesAl {s : Stand} {a : List Nat} (h : isAl s.blocks.length a = true) : ¬ s.isAllocation a = false := by
  rw [isAl_eq, h]
  exact fun z => Bool.noConfusion z
theorem isAl_of {n : Nat} {a : List Nat} (h : isAl n a = true) : a.length = n ∧ ∀ u ∈ a, u ≤ 2 := by
  unfold isAl at h
  rw [Bool.and_eq_true, List.all_eq_true] at h
  exact ⟨by simpa using h.1, fun u hu => of_decide_eq_true (h.2 u hu)⟩
theorem sc_f_tell_is_valid : FnScope ["plan", "numbers", "lists", "allocation"] ["plan", "numbers", "lists"] (defScope s_f_tell_is_valid) := ⟨rfl, rfl, rfl, by decide +kernel, rfl, by decide +kernel, by decide +kernel⟩
theorem f_tell_is_valid (T : Txt K mg) : OkF P w K mg base 4 "tell_is_valid" ["plan", "numbers", "lists"] (spPl K (Rq 14)) := by
  refine okQ T.d_tell_is_valid sc_f_tell_is_valid rfl (fun _ _ _ _ _ _ us hl => match us, hl with | [_, _, _], _ => rfl) fun f cdv A outer sh H p nv lv s ns ls op E hr hP hO hn hl hz hd => ?_
  cases hd
  rename_i a
  have ha := hz a (by simp)
  refine ⟨_, (pss_cons (ps_set (i := 3) sc_f_tell_is_valid.nd rfl (Or.inl rfl) (pe_ix (r := rIxL K) ix_list (pv 2) pe_int (fun _ _ => rfl)))
    (pss_cons (ps_if (pt_not (pt_val (pe_callF (f_is_allocation T) (hr.mono (by decide)) rfl (pa_cons (pv 3) (pa_cons (pe_methF0 (m_block_count T) T.cls (hr.mono (by decide)) (pv 0)) pa_nil))))) (pss_one (ps_ret (pe_lst (pa_cons (pe_gi rfl T.i_BAD_ARGUMENT) pa_nil)))) pss_nil)
    (pss_cons (ps_if (pt_val (pe_callF (f_is_valid T) (hr.mono (by decide)) rfl (pa_cons (pe_fld (pv 0) rfl) (pa_cons (pe_fld (pv 0) rfl) (pa_cons (pv 3) pa_nil))))) (pss_one (ps_ret (pe_lst (pa_cons pe_int pa_nil)))) pss_nil)
    (pss_one (ps_ret (pe_lst (pa_cons pe_int pa_nil))))))), fun Q hq => ?_⟩
  refine b_set (K := K) (d := nL a) (Ex.refl H) (by walk_at "ed") fun va H0 e0 hva => ?_
  have hP0 := hP.mono e0
  refine b_when (K := K) (Ex.refl H0) (et_not (et_b (ed_call (ea_cons (ed_var rfl hva) (ea_cons (ed_meth (Evl.ev_var rfl) hP0 ea_nil ⟨rfl, rfl⟩) ea_nil)) ⟨a, s.blocks.length, ha, rfl, rfl⟩))) (fun hb H1 e1 => ?_) (fun hb H1 e1 => ?_)
  · have h : isAl s.blocks.length a = false := by simpa using hb
    exact b_ret (K := K) (d := iI [-22]) (e0.trans e1) (by walk_at "ed") (hq [-22] (by unfold dStep; rw [run14, if_pos (noAl h)]; rfl))
  have h : isAl s.blocks.length a = true := by simpa using hb
  obtain ⟨u1, u2⟩ := isAl_of h
  obtain ⟨n0, n1, n2, n3, n4⟩ := hO.nice
  obtain ⟨sv, av, cv, hV, q1, q2, q3⟩ := hP0
  have hs : ∀ b, (resp (AA s) a && sep s.adjacency a) = b → (dStep (.isValid a) s).2 = [if b = true then 1 else 0] := fun b hb => by
    unfold dStep
    rw [run14, if_neg (yesAl h), sep_eq, contains_eq hO u1, Bool.and_comm, hb]
    cases b <;> rfl
  refine b_when (K := K) e1 (et_b (ed_call (ea_cons (ed_ev (ev_assignments T (Evl.ev_var rfl) hV) q2) (ea_cons (ed_ev (ev_pairs T (Evl.ev_var rfl) hV) q3) (ea_cons (ed_var rfl hva) ea_nil))) ⟨AA s, s.adjacency, a, n2, by omega, fun pr hpr => ?_, n4, rfl, rfl⟩)) (fun hb H1 e1 => ?_) (fun hb H1 e1 => ?_)
  · have := n3 pr hpr
    rw [List.length_map] at this
    omega
  · exact b_ret (K := K) (d := iI [1]) (e0.trans e1) (by walk_at "ed") (hq [1] (hs true hb))
  · exact b_ret (K := K) (d := iI [0]) (e0.trans e1) (by walk_at "ed") (hq [0] (hs false hb))
/-! 15 sold_seats -/
theorem sc_f_sold_seats : FnScope ["plan", "numbers", "lists", "allocation", "home", "away"] ["plan", "numbers", "lists"] (defScope s_f_sold_seats) := ⟨rfl, rfl, rfl, by decide +kernel, rfl, by decide +kernel, by decide +kernel⟩
theorem f_sold_seats (T : Txt K mg) : OkF P w K mg base 3 "sold_seats" ["plan", "numbers", "lists"] (spPl K (Rq 15)) := by
  refine okQ T.d_sold_seats sc_f_sold_seats rfl (fun _ _ _ _ _ _ us hl => match us, hl with | [_, _, _], _ => rfl) fun f cdv A outer sh H p nv lv s ns ls op E hr hP hO hn hl hz hd => ?_
  cases hd
  rename_i a
  have ha := hz a (by simp)
  have z6 := hO.n6
  refine ⟨_, (pss_cons (ps_set (i := 3) sc_f_sold_seats.nd rfl (Or.inl rfl) (pe_ix (r := rIxL K) ix_list (pv 2) pe_int (fun _ _ => rfl)))
    (pss_cons (ps_if (pt_not (pt_val (pe_callF (f_is_allocation T) (hr.mono (by decide)) rfl (pa_cons (pv 3) (pa_cons (pe_methF0 (m_block_count T) T.cls (hr.mono (by decide)) (pv 0)) pa_nil))))) (pss_one (ps_ret (pe_lst (pa_cons (pe_gi rfl T.i_BAD_ARGUMENT) pa_nil)))) pss_nil)
    (pss_cons (ps_par (i := 4) (j := 5) rfl sc_f_sold_seats.nd rfl rfl (by decide) rfl rfl (pa_cons (pe_callF (f_seats_with T) (hr.mono (by decide)) rfl (pa_cons (pe_fld (pv 0) rfl) (pa_cons (pv 3) (pa_cons (pe_gi rfl T.i_HOME) pa_nil)))) (pa_cons (pe_callF (f_seats_with T) (hr.mono (by decide)) rfl (pa_cons (pe_fld (pv 0) rfl) (pa_cons (pv 3) (pa_cons (pe_gi rfl T.i_AWAY) pa_nil)))) pa_nil)) rfl)
    (pss_one (ps_ret (pe_lst (pa_cons (pe_callF (f_sold T) (hr.mono (by decide)) rfl (pa_cons (pe_fld (pv 0) rfl) (pa_cons (pv 3) pa_nil))) (pa_cons (pv 4) (pa_cons (pv 5) pa_nil))))))))), fun Q hq => ?_⟩
  refine b_set (K := K) (d := nL a) (Ex.refl H) (by walk_at "ed") fun va H0 e0 hva => ?_
  have hP0 := hP.mono e0
  refine b_when (K := K) (Ex.refl H0) (et_not (et_b (ed_call (ea_cons (ed_var rfl hva) (ea_cons (ed_meth (Evl.ev_var rfl) hP0 ea_nil ⟨rfl, rfl⟩) ea_nil)) ⟨a, s.blocks.length, ha, rfl, rfl⟩))) (fun hb H1 e1 => ?_) (fun hb H1 e1 => ?_)
  · have h : isAl s.blocks.length a = false := by simpa using hb
    exact b_ret (K := K) (d := iI [-22]) (e0.trans e1) (by walk_at "ed") (hq [-22] (by unfold dStep; rw [run15, if_pos (noAl h)]; rfl))
  have h : isAl s.blocks.length a = true := by simpa using hb
  obtain ⟨u1, u2⟩ := isAl_of h
  obtain ⟨sv, av, cv, hV, q1, q2, q3⟩ := hP0
  have n0 : (SA s).length ≤ 1000 := by rw [List.length_map]; omega
  have es : ED K (tFld K (tVar 0) "seats") (List.set (L2.start ["plan", "numbers", "lists", "allocation", "home", "away"] [.ref p, nv, lv]) 3 (some va)) H0 (nL (SA s)) := ed_ev (ev_seats T (Evl.ev_var rfl) hV) q1
  refine b_par (K := K) e1 (ea_cons (ed_call (ea_cons es (ea_cons (ed_var rfl hva) (ea_cons ed_int ea_nil))) ⟨SA s, a, 1, n0, rfl, rfl⟩) (ea_cons (ed_call (ea_cons es (ea_cons (ed_var rfl hva) (ea_cons ed_int ea_nil))) ⟨SA s, a, 2, n0, rfl, rfl⟩) ea_nil)) fun vh vw H2 e2 hh hw => ?_
  have hs : (dStep (.soldSeats a) s).2 = [((soldN (SA s) a : Nat) : Int), ((sw (SA s) a 1 : Nat) : Int), ((sw (SA s) a 2 : Nat) : Int)] := by
    unfold dStep
    rw [run15, if_neg (yesAl h), sold_eq s a (by omega) u2, away_eq s a (by omega), where_eq s a _ (by omega)]
    rfl
  refine b_ret (K := K) (H0 := H2) (Ex.refl H2) (ed_lst (ea_cons (ed_call (ea_cons (ed_ev (ev_seats T (Evl.ev_var rfl) (hV.mono e2)) (q1.mono e2)) (ea_cons (ed_var rfl (hva.mono e2)) ea_nil)) ⟨SA s, a, n0, rfl, rfl⟩) (ea_cons (ed_var rfl hh) (ea_cons (ed_var rfl hw) ea_nil))) (by show 3 ≤ 100000; decide)) fun v H3 e3 hv => hq _ hs v H3 ((e0.trans e2).trans e3) hv
/-! are_allocations, 16, 17 -/
def R_are_allocations (s : Stand) (ds : List PyData) (d : PyData) : Prop := ∃ v w : List Nat, v.length ≤ 30000 ∧ w.length ≤ 30000 ∧ ds = [aL [v, w]] ∧ d = .bool (isAl s.blocks.length v && isAl s.blocks.length w)
theorem sc_f_are_allocations : FnScope ["plan", "lists"] ["plan", "lists"] (defScope s_f_are_allocations) := ⟨rfl, rfl, rfl, by decide +kernel, rfl, by decide +kernel, by decide +kernel⟩
theorem f_are_allocations (T : Txt K mg) : OkF P w K mg base 2 "are_allocations" ["plan", "lists"] (spPl K R_are_allocations) := by
  refine okPl T.d_are_allocations sc_f_are_allocations (fun s ds d h => by obtain ⟨_, _, _, _, rfl, _⟩ := h; rfl) (fun _ _ _ _ _ _ us hl => match us, hl with | [_, _], _ => rfl) fun f cdv A outer sh H p vs s ds d E hr hP hd hR => ?_
  obtain ⟨v, u, z1, z2, rfl, rfl⟩ := hR
  obtain ⟨x, rfl, hx⟩ := hd.one
  refine ⟨_, (pss_one (ps_ret (pe_and (pe_callF (f_is_allocation T) (hr.mono (by decide)) rfl (pa_cons (pe_ix (r := rIxL K) ix_list (pv 1) pe_int (fun _ _ => rfl)) (pa_cons (pe_methF0 (m_block_count T) T.cls (hr.mono (by decide)) (pv 0)) pa_nil))) (pe_one (pe_callF (f_is_allocation T) (hr.mono (by decide)) rfl (pa_cons (pe_ix (r := rIxL K) ix_list (pv 1) pe_int (fun _ _ => rfl)) (pa_cons (pe_methF0 (m_block_count T) T.cls (hr.mono (by decide)) (pv 0)) pa_nil))))))), fun Q hq => ?_⟩
  exact b_ret (K := K) (Ex.refl H) (ed_andV (ed_call (ea_cons (by walk_at "ed") (ea_cons (ed_meth (Evl.ev_var rfl) hP ea_nil ⟨rfl, rfl⟩) ea_nil)) ⟨v, s.blocks.length, z1, rfl, rfl⟩) fun _ => ed_call (ea_cons (by walk_at "ed") (ea_cons (ed_meth (Evl.ev_var rfl) hP ea_nil ⟨rfl, rfl⟩) ea_nil)) ⟨u, s.blocks.length, z2, rfl, rfl⟩) hq
theorem join_len {n : Nat} {v w : List Nat} (h1 : v.length = n) (h2 : w.length = n) : (Kv437.join v w).length = n := by
  unfold Kv437.join
  rw [List.length_map, List.length_zip, h1, h2, Nat.min_self]
theorem meet_len {n : Nat} {v w : List Nat} (h1 : v.length = n) (h2 : w.length = n) : (Kv437.meet v w).length = n := by
  unfold Kv437.meet
  rw [List.length_map, List.length_zip, h1, h2, Nat.min_self]
theorem sc_f_tell_join : FnScope ["plan", "numbers", "lists"] ["plan", "numbers", "lists"] (defScope s_f_tell_join) := ⟨rfl, rfl, rfl, by decide +kernel, rfl, by decide +kernel, by decide +kernel⟩
theorem f_tell_join (T : Txt K mg) : OkF P w K mg base 3 "tell_join" ["plan", "numbers", "lists"] (spPl K (Rq 16)) := by
  refine okQ T.d_tell_join sc_f_tell_join rfl (fun _ _ _ _ _ _ us hl => match us, hl with | [_, _, _], _ => rfl) fun f cdv A outer sh H p nv lv s ns ls op E hr hP hO hn hl hz hd => ?_
  cases hd
  rename_i v u
  have hv1 := hz v (by simp)
  have hu1 := hz u (by simp)
  have z6 := hO.n6
  refine ⟨_, (pss_cons (ps_if (pt_not (pt_val (pe_callF (f_are_allocations T) (hr.mono (by decide)) rfl (pa_cons (pv 0) (pa_cons (pv 2) pa_nil))))) (pss_one (ps_ret (pe_lst (pa_cons (pe_gi rfl T.i_BAD_ARGUMENT) pa_nil)))) pss_nil)
    (pss_one (ps_ret (pe_op op_cat (pe_lst (pa_cons (pe_methF0 (m_block_count T) T.cls (hr.mono (by decide)) (pv 0)) pa_nil)) (pe_callF (f_join T) (hr.mono (by decide)) rfl (pa_cons (pe_ix (r := rIxL K) ix_list (pv 2) pe_int (fun _ _ => rfl)) (pa_cons (pe_ix (r := rIxL K) ix_list (pv 2) pe_int (fun _ _ => rfl)) pa_nil))))))), fun Q hq => ?_⟩
  refine b_when (K := K) (Ex.refl H) (et_not (et_b (ed_callPl (Evl.ev_var rfl) hP (by walk_at "ea") ⟨v, u, hv1, hu1, rfl, rfl⟩))) (fun hb H1 e1 => ?_) (fun hb H1 e1 => ?_)
  · have h : s.isAllocation v = false ∨ s.isAllocation u = false := by
      rw [isAl_eq, isAl_eq]
      simpa [Bool.and_eq_false_iff, Decidable.imp_iff_not_or] using hb
    exact b_ret (K := K) (d := iI [-22]) e1 (by walk_at "ed") (hq [-22] (by unfold dStep; rw [run16, if_pos h]; rfl))
  have h : isAl s.blocks.length v = true ∧ isAl s.blocks.length u = true := by simpa using hb
  have hl2 := join_len (isAl_of h.1).1 (isAl_of h.2).1
  have hs : (dStep (.join v u) s).2 = ((s.blocks.length :: Kv437.join v u).map Int.ofNat) := by
    unfold dStep
    rw [run16, if_neg (fun z => z.elim (yesAl h.1) (yesAl h.2))]
    show ((Kv437.join v u).length : Int) :: (Kv437.join v u).map Int.ofNat = _
    rw [hl2]
    rfl
  refine b_ret (K := K) e1 (ed_is (ed_op (ed_lst (ea_cons (ed_meth (Evl.ev_var rfl) hP ea_nil ⟨rfl, rfl⟩) ea_nil) (by show 1 ≤ 100000; decide)) (ed_call (by walk_at "ea") ⟨v, u, by have := (isAl_of h.1).1; omega, rfl, rfl⟩) (rd_cat ?_)) ?_) (hq _ hs)
  · rw [List.length_map, hl2]
    show 1 + _ ≤ _
    omega
  · show _ = PyData.list (((s.blocks.length :: Kv437.join v u).map Int.ofNat).map PyData.int)
    rw [natI]
    rfl
theorem sc_f_tell_meet : FnScope ["plan", "numbers", "lists"] ["plan", "numbers", "lists"] (defScope s_f_tell_meet) := ⟨rfl, rfl, rfl, by decide +kernel, rfl, by decide +kernel, by decide +kernel⟩
theorem f_tell_meet (T : Txt K mg) : OkF P w K mg base 3 "tell_meet" ["plan", "numbers", "lists"] (spPl K (Rq 17)) := by
  refine okQ T.d_tell_meet sc_f_tell_meet rfl (fun _ _ _ _ _ _ us hl => match us, hl with | [_, _, _], _ => rfl) fun f cdv A outer sh H p nv lv s ns ls op E hr hP hO hn hl hz hd => ?_
  cases hd
  rename_i v u
  have hv1 := hz v (by simp)
  have hu1 := hz u (by simp)
  have z6 := hO.n6
  refine ⟨_, (pss_cons (ps_if (pt_not (pt_val (pe_callF (f_are_allocations T) (hr.mono (by decide)) rfl (pa_cons (pv 0) (pa_cons (pv 2) pa_nil))))) (pss_one (ps_ret (pe_lst (pa_cons (pe_gi rfl T.i_BAD_ARGUMENT) pa_nil)))) pss_nil)
    (pss_one (ps_ret (pe_op op_cat (pe_lst (pa_cons (pe_methF0 (m_block_count T) T.cls (hr.mono (by decide)) (pv 0)) pa_nil)) (pe_callF (f_meet T) (hr.mono (by decide)) rfl (pa_cons (pe_ix (r := rIxL K) ix_list (pv 2) pe_int (fun _ _ => rfl)) (pa_cons (pe_ix (r := rIxL K) ix_list (pv 2) pe_int (fun _ _ => rfl)) pa_nil))))))), fun Q hq => ?_⟩
  refine b_when (K := K) (Ex.refl H) (et_not (et_b (ed_callPl (Evl.ev_var rfl) hP (by walk_at "ea") ⟨v, u, hv1, hu1, rfl, rfl⟩))) (fun hb H1 e1 => ?_) (fun hb H1 e1 => ?_)
  · have h : s.isAllocation v = false ∨ s.isAllocation u = false := by
      rw [isAl_eq, isAl_eq]
      simpa [Bool.and_eq_false_iff, Decidable.imp_iff_not_or] using hb
    exact b_ret (K := K) (d := iI [-22]) e1 (by walk_at "ed") (hq [-22] (by unfold dStep; rw [run17, if_pos h]; rfl))
  have h : isAl s.blocks.length v = true ∧ isAl s.blocks.length u = true := by simpa using hb
  have hl2 := meet_len (isAl_of h.1).1 (isAl_of h.2).1
  have hs : (dStep (.meet v u) s).2 = ((s.blocks.length :: Kv437.meet v u).map Int.ofNat) := by
    unfold dStep
    rw [run17, if_neg (fun z => z.elim (yesAl h.1) (yesAl h.2))]
    show ((Kv437.meet v u).length : Int) :: (Kv437.meet v u).map Int.ofNat = _
    rw [hl2]
    rfl
  refine b_ret (K := K) e1 (ed_is (ed_op (ed_lst (ea_cons (ed_meth (Evl.ev_var rfl) hP ea_nil ⟨rfl, rfl⟩) ea_nil) (by show 1 ≤ 100000; decide)) (ed_call (by walk_at "ea") ⟨v, u, by have := (isAl_of h.1).1; omega, rfl, rfl⟩) (rd_cat ?_)) ?_) (hq _ hs)
  · rw [List.length_map, hl2]
    show 1 + _ ≤ _
    omega
  · show _ = PyData.list (((s.blocks.length :: Kv437.meet v u).map Int.ofNat).map PyData.int)
    rw [natI]
    rfl
/-! sold_with_assignment, 18, 19 -/
def soldOut (s : Stand) : Int := match s.best 0 with
  | none => -33
  | some a => (s.soldSeats a : Int)
theorem withA_seats (s : Stand) (i a : Nat) : SA (s.withAssignment i a) = SA s := by
  show (s.blocks.modify i _).map _ = s.blocks.map _
  exact map_mod_same (fun b : Block => b.seats) (fun b : Block => { b with assignment := a }) (fun _ => rfl) _ _
theorem withA_as (s : Stand) (i a : Nat) : AA (s.withAssignment i a) = (AA s).set i a := by
  show (s.blocks.modify i _).map _ = (s.blocks.map _).set i a
  exact map_mod_set (fun b : Block => b.assignment) (fun b : Block => { b with assignment := a }) a (fun _ => rfl) _ _
theorem Ok.withA {s : Stand} (h : Ok s) (i a : Nat) (ha : a ≤ 3) : Ok (s.withAssignment i a) := by
  have hl : (s.withAssignment i a).blocks.length = s.blocks.length := List.length_modify ..
  refine ⟨by rw [hl]; exact h.n6, fun b hb => ?_, fun p hp => by rw [hl]; exact h.ad p hp, h.nd⟩
  obtain ⟨j, hj⟩ := List.getElem?_of_mem hb
  rw [show (s.withAssignment i a).blocks = s.blocks.modify i fun b => { b with assignment := a } from rfl, List.getElem?_modify] at hj
  obtain ⟨c, hc, hcb⟩ := Option.map_eq_some_iff.mp hj
  have := h.bl c (List.mem_of_getElem? hc)
  by_cases hij : i = j
  · rw [if_pos hij] at hcb
    rw [← hcb]
    exact ⟨this.1, ha⟩
  · rw [if_neg hij] at hcb
    rw [← hcb]
    exact this
def R_sold_with_assignment (s : Stand) (ds : List PyData) (d : PyData) : Prop := ∃ i a : Nat, Ok s ∧ i < s.blocks.length ∧ a ≤ 3 ∧ ds = [nI i, nI a] ∧ d = iI [soldOut (s.withAssignment i a)]
theorem sc_f_sold_with_assignment : FnScope ["plan", "block", "assignment", "assignments", "most", "best"] ["plan", "block", "assignment"] (defScope s_f_sold_with_assignment) := ⟨rfl, rfl, rfl, by decide +kernel, rfl, by decide +kernel, by decide +kernel⟩
theorem f_sold_with_assignment (T : Txt K mg) : OkF P w K mg base 5 "sold_with_assignment" ["plan", "block", "assignment"] (spPl K R_sold_with_assignment) := by
  refine okPl T.d_sold_with_assignment sc_f_sold_with_assignment (fun s ds d h => by obtain ⟨_, _, _, _, _, rfl, _⟩ := h; rfl) (fun _ _ _ _ _ _ us hl => match us, hl with | [_, _, _], _ => rfl) fun f cdv A outer sh H p vs s ds d E hr hP hd hR => ?_
  obtain ⟨i, a, hO, hi, ha, rfl, rfl⟩ := hR
  obtain ⟨x, y, rfl, hx, hy⟩ := hd.two
  have z6 := hO.n6
  refine ⟨_, (pss_cons (ps_set (i := 3) sc_f_sold_with_assignment.nd rfl (Or.inl rfl) (pe_callF (f_with_item T) (hr.mono (by decide)) rfl (pa_cons (pe_fld (pv 0) rfl) (pa_cons (pv 1) (pa_cons (pv 2) pa_nil)))))
    (pss_cons (ps_asg (pe_callF (f_best_allocation T) (hr.mono (by decide)) rfl (pa_cons (pe_fld (pv 0) rfl) (pa_cons (pv 3) (pa_cons (pe_fld (pv 0) rfl) (pa_cons pe_int pa_nil))))) (pg_tup rfl (pgs_cons (pg_name (i := 4) sc_f_sold_with_assignment.nd rfl (Or.inl rfl)) (pgs_cons (pg_name (i := 5) sc_f_sold_with_assignment.nd rfl (Or.inl rfl)) pgs_nil))))
    (pss_one (ps_ret (pe_callF (f_seats_or_refusal T) (hr.mono (by decide)) rfl (pa_cons (pv 4) pa_nil)))))), fun Q hq => ?_⟩
  obtain ⟨sv, av, cv, hV, q1, q2, q3⟩ := hP
  refine b_set (K := K) (d := nL ((AA s).set i a)) (Ex.refl H) (ed_call (ea_cons (ed_ev (ev_assignments T (Evl.ev_var rfl) hV) q2) (by walk_at "ea")) ⟨AA s, i, a, by rw [List.length_map]; exact hi, by rw [List.length_map]; omega, rfl, rfl⟩) fun va H1 e1 hva => ?_
  have hO2 := hO.withA i a ha
  have hn := hO2.nice
  have hb := best_eq hO2 0
  rw [withA_seats, withA_as] at hb hn
  refine b_unp (K := K) (H0 := H1) (Ex.refl H1) (ed_call (ea_cons (ed_ev (ev_seats T (Evl.ev_var rfl) (hV.mono e1)) (q1.mono e1)) (ea_cons (ed_var rfl hva) (ea_cons (ed_ev (ev_pairs T (Evl.ev_var rfl) (hV.mono e1)) (q3.mono e1)) (ea_cons ed_int ea_nil)))) ⟨SA s, (AA s).set i a, s.adjacency, 0, hn, rfl, rfl⟩) fun v1 v2 H2 e2 g1 g2 => ?_
  rw [show bestP (SA s) ((AA s).set i a) s.adjacency 0 = _ from hb] at g1
  refine b_ret (K := K) (H0 := H2) (Ex.refl H2) (ed_is (ed_call (ea_cons (ed_var rfl g1) ea_nil) ⟨_, rfl, rfl⟩) ?_) fun v H3 e3 hv => hq v H3 ((e1.trans e2).trans e3) hv
  unfold soldOut
  cases (s.withAssignment i a).best 0 with
  | none => rfl
  | some c =>
    show PyData.list [.int (orRef (((s.withAssignment i a).soldSeats c : Nat) : Int))] = PyData.list [.int ((s.withAssignment i a).soldSeats c : Int)]
    rw [orRef, if_neg (by omega)]
theorem sold_resp (s s' : Stand) : (mkR ((⟨s⟩ : Kv437.Planner), Kv437.soldResponse s')).2 = [soldOut s'] := by
  unfold mkR Kv437.soldResponse soldOut
  cases s'.best 0 <;> rfl
theorem sc_f_sold_if_assigned : FnScope ["plan", "numbers", "lists", "block", "assignment"] ["plan", "numbers", "lists"] (defScope s_f_sold_if_assigned) := ⟨rfl, rfl, rfl, by decide +kernel, rfl, by decide +kernel, by decide +kernel⟩
theorem f_sold_if_assigned (T : Txt K mg) : OkF P w K mg base 6 "sold_if_assigned" ["plan", "numbers", "lists"] (spPl K (Rq 18)) := by
  refine okQ T.d_sold_if_assigned sc_f_sold_if_assigned rfl (fun _ _ _ _ _ _ us hl => match us, hl with | [_, _, _], _ => rfl) fun f cdv A outer sh H p nv lv s ns ls op E hr hP hO hn hl hz hd => ?_
  cases hd
  rename_i i a
  refine ⟨_, (pss_cons (ps_par (i := 3) (j := 4) rfl sc_f_sold_if_assigned.nd rfl rfl (by decide) rfl rfl (pa_cons (pe_ix (r := rIxL K) ix_list (pv 1) pe_int (fun _ _ => rfl)) (pa_cons (pe_ix (r := rIxL K) ix_list (pv 1) pe_int (fun _ _ => rfl)) pa_nil)) rfl)
    (pss_cons (ps_if (pt_not (pt_val (pe_methF (K := K) (m_has_block T) T.cls (hr.mono (by decide)) (pv 0) (pa_cons (pv 3) pa_nil)))) (pss_one (ps_ret (pe_lst (pa_cons (pe_gi rfl T.i_NO_SUCH_BLOCK) pa_nil)))) pss_nil)
    (pss_cons (ps_if (pt_cmpR op_gt (pv 4) (pe_gi rfl T.i_GREATEST_ASSIGNMENT) (nomark _)) (pss_one (ps_ret (pe_lst (pa_cons (pe_gi rfl T.i_BAD_ARGUMENT) pa_nil)))) pss_nil)
    (pss_one (ps_ret (pe_callF (f_sold_with_assignment T) (hr.mono (by decide)) rfl (pa_cons (pv 0) (pa_cons (pv 3) (pa_cons (pv 4) pa_nil))))))))), fun Q hq => ?_⟩
  refine b_par (K := K) (Ex.refl H) (by walk_at "ea") fun v1 v2 H0 e0 g1 g2 => ?_
  have hP0 := hP.mono e0
  refine b_when (K := K) (Ex.refl H0) (et_not (et_b (ed_meth (Evl.ev_var rfl) hP0 (by walk_at "ea") ⟨i, rfl, rfl⟩))) (fun hb H1 e1 => ?_) (fun hb H1 e1 => ?_)
  · have h : ¬ i < s.blocks.length := by simpa using hb
    exact b_ret (K := K) (d := iI [-2]) (e0.trans e1) (by walk_at "ed") (hq [-2] (by unfold dStep; rw [run18, if_pos (noB h)]; rfl))
  have h : i < s.blocks.length := by simpa using hb
  refine b_when (K := K) e1 (by walk_at "et") (fun hb2 H1 e1 => ?_) (fun hb2 H1 e1 => ?_)
  · have h2 := of_decide_eq_true hb2
    exact b_ret (K := K) (d := iI [-22]) (e0.trans e1) (by walk_at "ed") (hq [-22] (by unfold dStep; rw [run18, if_neg (isB h), if_pos (by omega)]; rfl))
  have h2 := of_decide_eq_false hb2
  have hs : (dStep (.soldIfAssigned i a) s).2 = [soldOut (s.withAssignment i a)] := by
    unfold dStep
    rw [run18, if_neg (isB h), if_neg (by omega)]
    exact sold_resp _ _
  exact b_ret (K := K) e1 (ed_callPl (Evl.ev_var rfl) hP0 (by walk_at "ea") ⟨i, a, hO, h, by omega, rfl, rfl⟩) fun v H3 e3 hv => hq _ hs v H3 (e0.trans e3) hv
theorem sc_f_sold_if_closed : FnScope ["plan", "numbers", "lists"] ["plan", "numbers", "lists"] (defScope s_f_sold_if_closed) := ⟨rfl, rfl, rfl, by decide +kernel, rfl, by decide +kernel, by decide +kernel⟩
theorem f_sold_if_closed (T : Txt K mg) : OkF P w K mg base 6 "sold_if_closed" ["plan", "numbers", "lists"] (spPl K (Rq 19)) := by
  refine okQ T.d_sold_if_closed sc_f_sold_if_closed rfl (fun _ _ _ _ _ _ us hl => match us, hl with | [_, _, _], _ => rfl) fun f cdv A outer sh H p nv lv s ns ls op E hr hP hO hn hl hz hd => ?_
  cases hd
  rename_i i
  refine ⟨_, (pss_cons (ps_if (pt_not (pt_val (pe_methF (K := K) (m_has_block T) T.cls (hr.mono (by decide)) (pv 0) (pa_cons (pe_ix (r := rIxL K) ix_list (pv 1) pe_int (fun _ _ => rfl)) pa_nil)))) (pss_one (ps_ret (pe_lst (pa_cons (pe_gi rfl T.i_NO_SUCH_BLOCK) pa_nil)))) pss_nil)
    (pss_one (ps_ret (pe_callF (f_sold_with_assignment T) (hr.mono (by decide)) rfl (pa_cons (pv 0) (pa_cons (pe_ix (r := rIxL K) ix_list (pv 1) pe_int (fun _ _ => rfl)) (pa_cons (pe_gi rfl T.i_CLOSED) pa_nil))))))), fun Q hq => ?_⟩
  refine b_when (K := K) (Ex.refl H) (et_not (et_b (ed_meth (Evl.ev_var rfl) hP (by walk_at "ea") ⟨i, rfl, rfl⟩))) (fun hb H1 e1 => ?_) (fun hb H1 e1 => ?_)
  · have h : ¬ i < s.blocks.length := by simpa using hb
    exact b_ret (K := K) (d := iI [-2]) e1 (by walk_at "ed") (hq [-2] (by unfold dStep; rw [run19, if_pos (noB h)]; rfl))
  have h : i < s.blocks.length := by simpa using hb
  have hs : (dStep (.soldIfClosed i) s).2 = [soldOut (s.withAssignment i 3)] := by
    unfold dStep
    rw [run19, if_neg (isB h)]
    exact sold_resp _ _
  exact b_ret (K := K) e1 (ed_callPl (Evl.ev_var rfl) hP (by walk_at "ea") ⟨i, 3, hO, h, Nat.le_refl _, rfl, rfl⟩) (hq _ hs)
/-! 20 count_valid, 22 get_state -/
theorem sc_f_count_valid : FnScope ["plan", "numbers", "lists"] ["plan", "numbers", "lists"] (defScope s_f_count_valid) := ⟨rfl, rfl, rfl, by decide +kernel, rfl, by decide +kernel, by decide +kernel⟩
theorem f_count_valid (T : Txt K mg) : OkF P w K mg base 4 "count_valid" ["plan", "numbers", "lists"] (spPl K (Rq 20)) := by
  refine okQ T.d_count_valid sc_f_count_valid rfl (fun _ _ _ _ _ _ us hl => match us, hl with | [_, _, _], _ => rfl) fun f cdv A outer sh H p nv lv s ns ls op E hr hP hO hn hl hz hd => ?_
  cases hd
  refine ⟨_, (pss_one (ps_ret (pe_lst (pa_cons (pe_callB call_len_seq (by rfl) T.b_len PySem.boot_len (pa_cons (pe_callF (f_valid_allocations T) (hr.mono (by decide)) rfl (pa_cons (pe_fld (pv 0) rfl) (pa_cons (pe_fld (pv 0) rfl) pa_nil))) pa_nil)) pa_nil)))), fun Q hq => ?_⟩
  obtain ⟨sv, av, cv, hV, q1, q2, q3⟩ := hP
  obtain ⟨n0, n1, n2, n3, n4⟩ := hO.nice
  have hs : (dStep .countValid s).2 = [((valids (AA s) s.adjacency).length : Int)] := by
    rw [← validA0 hO]
    rfl
  refine b_ret (K := K) (Ex.refl H) (ed_is (ed_lst (ea_cons (ed_cb (ea_cons (ed_call (ea_cons (ed_ev (ev_assignments T (Evl.ev_var rfl) hV) q2) (ea_cons (ed_ev (ev_pairs T (Evl.ev_var rfl) hV) q3) ea_nil)) ⟨AA s, s.adjacency, n1, n2, n3, n4, rfl, rfl⟩) ea_nil) rc_len) ea_nil) (by show 1 ≤ 100000; decide)) ?_) (hq _ hs)
  rw [List.length_map]
  rfl
theorem sc_f_get_state : FnScope ["plan", "numbers", "lists"] ["plan", "numbers", "lists"] (defScope s_f_get_state) := ⟨rfl, rfl, rfl, by decide +kernel, rfl, by decide +kernel, by decide +kernel⟩
theorem f_get_state (T : Txt K mg) : OkF P w K mg base 2 "get_state" ["plan", "numbers", "lists"] (spPl K (Rq 22)) := by
  refine okQ T.d_get_state sc_f_get_state rfl (fun _ _ _ _ _ _ us hl => match us, hl with | [_, _, _], _ => rfl) fun f cdv A outer sh H p nv lv s ns ls op E hr hP hO hn hl hz hd => ?_
  cases hd
  refine ⟨_, (pss_one (ps_ret (pe_lst (pa_cons (pe_methF0 (m_block_count T) T.cls (hr.mono (by decide)) (pv 0)) (pa_cons (pe_callB call_len_seq (by rfl) T.b_len PySem.boot_len (pa_cons (pe_fld (pv 0) rfl) pa_nil)) (pa_cons (pe_callB (cr_sum rfl) (by rfl) T.b_sum (by decide +kernel) (pa_cons (pe_fld (pv 0) rfl) pa_nil)) pa_nil)))))), fun Q hq => ?_⟩
  have hP0 := hP
  obtain ⟨sv, av, cv, hV, q1, q2, q3⟩ := hP0
  have hs : (dStep .getState s).2 = [(s.blocks.length : Int), (s.adjacency.length : Int), (((SA s).sum : Nat) : Int)] := rfl
  have q1' : Dq K H sv (.list (((SA s).map fun n : Nat => (n : Int)).map PyData.int)) := by
    rw [List.map_map]
    exact q1
  refine b_ret (K := K) (Ex.refl H) (ed_is (ed_lst (ea_cons (ed_meth (Evl.ev_var rfl) hP ea_nil ⟨rfl, rfl⟩) (ea_cons (ed_cb (ea_cons (ed_ev (ev_pairs T (Evl.ev_var rfl) hV) q3) ea_nil) rc_len) (ea_cons (ed_cb (ea_cons (ed_ev (ev_seats T (Evl.ev_var rfl) hV) q1') ea_nil) rc_sum) ea_nil))) (by show 3 ≤ 100000; decide)) ?_) (hq _ hs)
  rw [List.length_map, sum_nat]
  rfl
end
end Sb
/-! ### M. the calls read out of the one list -/
namespace Sb
open PySem PySem.Spec PyProof.Rows L2
open Evl (Ex Ev EvT EvL)
open Kv437 (Stand Block Operation)
local macro_rules | `(tactic| walk_at "rd") => `(tactic| first | exact rd_add | exact rd_sub | exact rd_lt | exact rd_le | exact rd_gt | exact rd_ge | exact rd_eq | exact rd_ne | exact rd_ixL (j := 0) rfl | exact rd_ixL (j := 1) rfl)
local macro_rules | `(tactic| walk_at "ed") => `(tactic| first
  | exact ed_int | exact ed_bl
  | (refine' ed_var rfl ?h; (case h => assumption))
  | (refine' ed_op ?a ?b ?c; (case a => walk_at "ed"); (case b => walk_at "ed"); (case c => walk_at "rd"))
  | (refine' ed_cb ?a ?c; (case a => walk_at "ea"); (case c => first | exact rc_len | exact rc_min | exact rc_max | exact rc_list))
  | (refine' ed_notV ?a; walk_at "ed")
  | (refine' ed_tup ?a ?b; (case a => walk_at "ea"); (case b => simp))
  | (refine' ed_lst ?a ?b; (case a => walk_at "ea"); (case b => simp)))
local macro_rules | `(tactic| walk_at "ea") => `(tactic| first | exact ea_nil | (refine' ea_cons ?a ?b; (case a => walk_at "ed"); (case b => walk_at "ea")))
local macro_rules | `(tactic| walk_at "et") => `(tactic| first
  | (refine' et_not ?a; (case a => walk_at "et"))
  | (refine' et_t ?a; (case a => walk_at "ed"))
  | (refine' et_b ?a; (case a => walk_at "ed")))

def numL : List Nat := [0, 1, 0, 2, 2, 2, 2, 0, 0, 1, 0, 0, 1, 0, 0, 0, 0, 0, 2, 1, 0, 0, 0]
def lstL : List Nat := [0, 0, 0, 0, 0, 0, 0, 0, 0, 0, 0, 0, 0, 0, 1, 1, 2, 2, 0, 0, 0, 0, 0]
def rowN : List Nat → Option (List Nat × List Nat)
  | [] => none
  | n :: r => if n ≤ r.length then some (r.take n, r.drop n) else none
def rowsN : Nat → List Nat → Option (List (List Nat) × List Nat)
  | 0, r => some ([], r)
  | k + 1, r => match rowN r with
    | none => none
    | some (x, s) => match rowsN k s with
      | none => none
      | some (xs, t) => some (x :: xs, t)
theorem rowN_cons (n : Nat) (r : List Nat) : rowN (n :: r) = if n ≤ r.length then some (r.take n, r.drop n) else none := rfl
theorem rowsN_succ : ∀ (i : Nat) (r : List Nat), rowsN (i + 1) r = match rowsN i r with
    | none => none
    | some (xs, t) => match rowN t with
      | none => none
      | some (x, t') => some (xs ++ [x], t')
  | 0, r => by
    cases h : rowN r with
    | none => simp [rowsN, h]
    | some p => simp [rowsN, h]
  | i + 1, r => by
    rw [rowsN]
    conv => rhs; rw [rowsN]
    cases h : rowN r with
    | none => rfl
    | some p =>
      obtain ⟨x, s⟩ := p
      dsimp only
      rw [rowsN_succ i s]
      cases rowsN i s with
      | none => rfl
      | some q =>
        obtain ⟨xs, t⟩ := q
        dsimp only
        cases rowN t with
        | none => rfl
        | some q2 => rfl
theorem rowsN_le {m : Nat} {r : List Nat} {p : List (List Nat) × List Nat} (h : rowsN m r = some p) : ∀ i, i ≤ m → ∃ q, rowsN i r = some q := by
  induction m generalizing p with
  | zero =>
    intro i hi
    have : i = 0 := by omega
    subst this
    exact ⟨p, h⟩
  | succ m ih =>
    intro i hi
    by_cases he : i = m + 1
    · subst he
      exact ⟨p, h⟩
    · rw [rowsN_succ] at h
      cases hm : rowsN m r with
      | none => rw [hm] at h; cases h
      | some q => exact ih hm i (by omega)
/-- one row more: what stands at the place -/
theorem rows_turn {m i : Nat} {l : List Nat} {f first : Nat} {p : List (List Nat) × List Nat} {xs : List (List Nat)} (h : rowsN m (l.drop f) = some p) (hi : i < m) (h2 : rowsN i (l.drop f) = some (xs, l.drop first)) :
    ∃ c, l[first]? = some c ∧ first + 1 + c ≤ l.length ∧ rowsN (i + 1) (l.drop f) = some (xs ++ [(l.drop (first + 1)).take c], l.drop (first + 1 + c)) := by
  obtain ⟨q, hq⟩ := rowsN_le h (i + 1) (by omega)
  rw [rowsN_succ, h2] at hq
  dsimp only at hq
  cases hr : l.drop first with
  | nil => rw [hr] at hq; cases hq
  | cons c r =>
    have h1 : l[first]? = some c := by
      have := List.getElem?_drop (xs := l) (i := first) (j := 0)
      rw [hr] at this
      simpa using this.symm
    have hlt := (List.getElem?_eq_some_iff.mp h1).1
    have h3 : r = l.drop (first + 1) := by
      have : l.drop (first + 1) = (l.drop first).drop 1 := by rw [List.drop_drop]
      rw [this, hr]
      rfl
    rw [hr] at hq
    rw [rowN_cons] at hq
    by_cases hc : c ≤ r.length
    · refine ⟨c, h1, ?_, ?_⟩
      · rw [h3, List.length_drop] at hc
        omega
      · rw [rowsN_succ, h2]
        dsimp only
        rw [hr, rowN_cons, if_pos hc, h3]
        dsimp only
        rw [List.drop_drop]
    · rw [if_neg hc] at hq
      cases hq
/-- the call at a place: its number k, n numbers, m lists xs; what follows stands at q -/
structure CallAt (l : List Nat) (pl k n m : Nat) (xs : List (List Nat)) (q : Nat) : Prop where
  at_ : l[pl]? = some k
  hn : numL[k]? = some n
  hm : lstL[k]? = some m
  fit : pl + 1 + n ≤ l.length
  rows : rowsN m (l.drop (pl + 1 + n)) = some (xs, l.drop q)
  hq : q ≤ l.length
theorem m_le {k m : Nat} (h : lstL[k]? = some m) : m ≤ 2 := by
  have : ∀ x ∈ lstL, x ≤ 2 := by decide
  exact this m (List.mem_of_getElem? h)
section
variable {K : PySem.W.Frag} {σ : L2.St} {H H' : Hp} {ta tb te : TE} {mg : Str → Option Value}
theorem ed_ixC {a : Addr} {l : List Nat} {j c : Nat} (ha : Ev ta σ H (.ref a)) (hs : SqL K H a (natV l)) (hb : ED K tb σ H (nI j)) (hc : l[j]? = some c) : ED K (tOp (rIxL K) ta tb) σ H (nI c) := fun H1 e Q q =>
  ha H1 e _ fun H2 e2 => hb H2 (e.trans e2) _ fun v H3 e3 hv => by
    have := hv.int_of
    subst this
    refine ⟨a, natV l, _, .int (c : Int), rfl, rfl, Evl.ex_l ((e.trans e2).trans e3) hs, atI_nat ?_, q _ H3 (e2.trans e3) (.int _)⟩
    rw [List.getElem?_map, hc]
    rfl
theorem numD : numbersD = .tuple (numL.map nI) := rfl
theorem lstD : listsD = .tuple (lstL.map nI) := rfl
theorem ed_nums (T : Txt K mg) : ED K (tC (.ref (He.ga K "NUMBERS"))) σ H (.tuple (numL.map nI)) := fun H1 _ Q q => q _ H1 (Ex.refl H1) (numD ▸ dq_written T.v_NUMBERS H1)
theorem ed_lsts (T : Txt K mg) : ED K (tC (.ref (He.ga K "LISTS"))) σ H (.tuple (lstL.map nI)) := fun H1 _ Q q => q _ H1 (Ex.refl H1) (lstD ▸ dq_written T.v_LISTS H1)
theorem map_some {l : List Nat} {k n : Nat} (h : l[k]? = some n) : (l.map nI)[k]? = some (nI n) := by
  rw [List.getElem?_map, h]
  rfl
theorem cutV_nat (l : List Nat) {i j : Nat} (h : i ≤ l.length) (h2 : j ≤ l.length) : cutV (natV l) (some (i : Int)) (some (j : Int)) = natV ((l.drop i).take (j - i)) := by
  unfold cutV
  rw [List.length_map, HT.sIx_nat, HT.sIx_nat, Nat.min_eq_left h, Nat.min_eq_left h2, ← List.map_drop, ← List.map_take]
/-- the promise of what reads the calls -/
def spC (K : PySem.W.Frag) (R : List Nat → List PyData → PyData → Prop) : Sp := fun vs H Q _ => ∃ a l rest ds d, vs = .ref a :: rest ∧ SqL K H a (natV l) ∧ l.length ≤ 30000 ∧ DqAll K H rest ds ∧ R l ds d ∧ ∀ v H', Ex H H' → Dq K H' v d → Q v H'
theorem ed_callC {R : List Nat → List PyData → PyData → Prop} {E : XK} {a : Addr} {l : List Nat} {ds : List PyData} {d : PyData} {tas : TA} (ha : Ev ta σ H (.ref a)) (hs : SqL K H a (natV l)) (hl : l.length ≤ 30000) (h : EDA K tas σ H ds) (hR : R l ds d) : ED K (tCall (spC K R) [] E (tCons ta tas)) σ H d := fun H1 e Q q => ha H1 e _ fun H2 e2 =>
  h H2 (e.trans e2) _ fun vs H3 e3 hvs => ⟨a, l, vs, ds, d, by rw [List.append_nil], Evl.ex_l ((e.trans e2).trans e3) hs, hl, hvs, hR, fun v H4 e4 hv => q v H4 ((e2.trans e3).trans e4) hv⟩
end
section
variable {P : Program} {w : World} {K : PySem.W.Frag} {mg : Str → Option Value} {base : Heap}
theorem okC {x : Str} {st : Stmt} {N ps : List Str} {k : Nat} {R : List Nat → List PyData → PyData → Prop} (D : Df K mg x st) (S : FnScope N ps (defScope st)) (len : ∀ l ds d, R l ds d → ds.length + 1 = ps.length)
    (bind : ∀ (kV doc pm : Value) (an : Option Addr) (cdv ct : Value) (us : List Value), us.length = ps.length → bindArgs (PySem.W.fnOf x x (defArgs st) (defBody st) (defScope st) .none kV doc pm an cdv ct) ⟨us, []⟩ = pure (ps.zip us))
    (hbody : ∀ (f : Addr) (cdv : Value) (A : Around) (outer : List Env) (sh : Shared) (H : Hp) (a : Addr) (l : List Nat) (vs : List V) (ds : List PyData) (d : PyData) (E : XK), Room k (A.deeper (envOfC x (defScope st) sh.heap.objs.size f cdv)) → SqL K H a (natV l) → l.length ≤ 30000 → DqAll K H vs ds → R l ds d →
      ∃ t, PSs (cxOf CX0 P w K mg base N x (defScope st) f cdv A outer sh H E).nox (defBody st) t ∧ ∀ Q : VK, (∀ v H', Ex H H' → Dq K H' v d → Q v H') → t { nx := fun _ H' => Q .non H', rt := Q } (start N (.ref a :: vs)) H) : OkF P w K mg base (k + 1) x ps (spC K R) := by
  refine okF D S (fun vs H Q E h => ?_) bind fun f cdv A outer sh H vs Q E hr h => ?_
  · obtain ⟨a, l, rest, ds, d, rfl, _, _, hd, hR, _⟩ := h
    have := len l ds d hR
    rw [List.length_cons, hd.len]
    exact this
  · obtain ⟨a, l, rest, ds, d, rfl, hs, hl, hd, hR, q⟩ := h
    obtain ⟨t, ht, hq⟩ := hbody f cdv A outer sh H a l rest ds d E hr hs hl hd hR
    exact ⟨t, ht, hq Q q⟩
/-! place_of_lists, numbers_at -/
def R_place_of_lists (l : List Nat) (ds : List PyData) (d : PyData) : Prop := ∃ pl k n, l[pl]? = some k ∧ numL[k]? = some n ∧ ds = [nI pl] ∧ d = nI (pl + 1 + n)
theorem sc_f_place_of_lists : FnScope ["calls", "place"] ["calls", "place"] (defScope s_f_place_of_lists) := ⟨rfl, rfl, rfl, by decide +kernel, rfl, by decide +kernel, by decide +kernel⟩
theorem f_place_of_lists (T : Txt K mg) : OkF P w K mg base 1 "place_of_lists" ["calls", "place"] (spC K R_place_of_lists) := by
  refine okC T.d_place_of_lists sc_f_place_of_lists (fun l ds d h => by obtain ⟨_, _, _, _, _, rfl, _⟩ := h; rfl) (fun _ _ _ _ _ _ us hl => match us, hl with | [_, _], _ => rfl) fun f cdv A outer sh H a l vs ds d E hr hs hl hd hR => ?_
  obtain ⟨pl, k, n, h1, h2, rfl, rfl⟩ := hR
  obtain ⟨x, rfl, hx⟩ := hd.one
  refine ⟨_, (pss_one (ps_ret (pe_op op_add (pe_op op_add (pv 1) pe_int) (pe_ix (r := rIxT K) ix_tup (pe_gr rfl T.r_NUMBERS) (pe_ix (r := rIxL K) ix_list (pv 0) (pv 1) (fun _ _ => rfl)) (fun _ _ => rfl))))), fun Q hq => ?_⟩
  refine b_ret (K := K) (Ex.refl H) (ed_is (ed_op (ed_op (ed_var rfl hx) ed_int rd_add) (ed_op (ed_nums T) (ed_ixC (Evl.ev_var rfl) hs (ed_var rfl hx) h1) (rd_ixT (map_some h2))) rd_add) ?_) hq
  show PyData.int _ = PyData.int _
  congr 1
def R_numbers_at (l : List Nat) (ds : List PyData) (d : PyData) : Prop := ∃ pl k n, l[pl]? = some k ∧ numL[k]? = some n ∧ pl + 1 + n ≤ l.length ∧ ds = [nI pl] ∧ d = nL ((l.drop (pl + 1)).take n)
theorem ed_sliceC {σ : L2.St} {H : Hp} {te : TE} {tl th : TO} {a : Addr} {l : List Nat} {i j : Nat} (h : Ev te σ H (.ref a)) (hs : SqL K H a (natV l)) (hl : EOD K tl σ H (some (i : Int))) (hh : EOD K th σ H (some (j : Int))) (h1 : i ≤ l.length) (h2 : j ≤ l.length) : EvL (tSl (rSlL K) te tl th) σ H (natV ((l.drop i).take (j - i))) := by
  rw [← cutV_nat l h1 h2]
  exact Evl.el_sl h hl hh hs
theorem ed_evL {σ : L2.St} {H : Hp} {te : TE} {l : List Nat} (h : EvL te σ H (natV l)) : ED K te σ H (nL l) := fun H1 e Q q => h H1 e Q fun p H2 _ e2 hp => q _ H2 e2 (dq_nats hp)
theorem sc_f_numbers_at : FnScope ["calls", "place"] ["calls", "place"] (defScope s_f_numbers_at) := ⟨rfl, rfl, rfl, by decide +kernel, rfl, by decide +kernel, by decide +kernel⟩
theorem f_numbers_at (T : Txt K mg) : OkF P w K mg base 2 "numbers_at" ["calls", "place"] (spC K R_numbers_at) := by
  refine okC T.d_numbers_at sc_f_numbers_at (fun l ds d h => by obtain ⟨_, _, _, _, _, _, rfl, _⟩ := h; rfl) (fun _ _ _ _ _ _ us hl => match us, hl with | [_, _], _ => rfl) fun f cdv A outer sh H a l vs ds d E hr hs hl hd hR => ?_
  obtain ⟨pl, k, n, h1, h2, h3, rfl, rfl⟩ := hR
  obtain ⟨x, rfl, hx⟩ := hd.one
  refine ⟨_, (pss_one (ps_ret (pe_slice sl_list (pv 0) (po_some (pe_op op_add (pv 1) pe_int)) (po_some (pe_callF (f_place_of_lists T) (hr.mono (by decide)) rfl (pa_cons (pv 0) (pa_cons (pv 1) pa_nil))))))), fun Q hq => ?_⟩
  refine b_ret (K := K) (Ex.refl H) (ed_is (ed_evL (ed_sliceC (i := pl + 1) (j := pl + 1 + n) (Evl.ev_var rfl) hs (eo_some (ed_op (ed_var rfl hx) ed_int rd_add)) (eo_some (ed_callC (Evl.ev_var rfl) hs hl (by walk_at "ea") ⟨pl, k, n, h1, h2, rfl, rfl⟩)) (by omega) h3)) ?_) hq
  rw [show pl + 1 + n - (pl + 1) = n by omega]
/-! lists_at, place_after -/
def R_lists_at (l : List Nat) (ds : List PyData) (d : PyData) : Prop := ∃ pl k n m xs q, CallAt l pl k n m xs q ∧ ds = [nI pl] ∧ d = aL xs
def R_place_after (l : List Nat) (ds : List PyData) (d : PyData) : Prop := ∃ pl k n m xs q, CallAt l pl k n m xs q ∧ ds = [nI pl] ∧ d = nI q
theorem drop_inj {l : List Nat} {a b : Nat} (h1 : a ≤ l.length) (h2 : b ≤ l.length) (e : l.drop a = l.drop b) : a = b := by
  have := congrArg List.length e
  rw [List.length_drop, List.length_drop] at this
  omega
theorem sc_f_lists_at : FnScope ["calls", "place", "found", "first", "turn", "behind"] ["calls", "place"] (defScope s_f_lists_at) := ⟨rfl, rfl, rfl, by decide +kernel, rfl, by decide +kernel, by decide +kernel⟩
theorem f_lists_at (T : Txt K mg) : OkF P w K mg base 2 "lists_at" ["calls", "place"] (spC K R_lists_at) := by
  refine okC T.d_lists_at sc_f_lists_at (fun l ds d h => by obtain ⟨_, _, _, _, _, _, _, rfl, _⟩ := h; rfl) (fun _ _ _ _ _ _ us hl => match us, hl with | [_, _], _ => rfl) fun f cdv A outer sh H a l vs ds d E hr hs hl hd hR => ?_
  obtain ⟨pl, k, n, m, xs, q, C, rfl, rfl⟩ := hR
  obtain ⟨x, rfl, hx⟩ := hd.one
  refine ⟨_, (pss_cons (ps_par (i := 2) (j := 3) rfl sc_f_lists_at.nd rfl rfl (by decide) rfl rfl (pa_cons (pe_lst pa_nil) (pa_cons (pe_callF (f_place_of_lists T) (hr.mono (by decide)) rfl (pa_cons (pv 0) (pa_cons (pv 1) pa_nil))) pa_nil)) rfl)
    (pss_cons (ps_for PassesOwn.never rfl (pi_range1 (by rfl) T.b_range (pa_cons (pe_ix (r := rIxT K) ix_tup (pe_gr rfl T.r_LISTS) (pe_ix (r := rIxL K) ix_list (pv 0) (pv 1) (fun _ _ => rfl)) (fun _ _ => rfl)) pa_nil)) (pg_name (i := 4) sc_f_lists_at.nd rfl (Or.inl rfl)) (pss_cons (ps_set (i := 5) sc_f_lists_at.nd rfl (Or.inl rfl) (pe_op op_add (pe_op op_add (pv 3) pe_int) (pe_ix (r := rIxL K) ix_list (pv 0) (pv 3) (fun _ _ => rfl))))
    (pss_cons (ps_expr (pe_bm PySem.F.plainAttrs_list PySem.F.slot_list_append PySem.F.type_list_append mt_append (pv 2) (pa_cons (pe_slice sl_list (pv 0) (po_some (pe_op op_add (pv 3) pe_int)) (po_some (pv 5))) pa_nil)))
    (pss_one (ps_set (i := 3) sc_f_lists_at.nd rfl (Or.inl rfl) (pv 5))))))
    (pss_one (ps_ret (pv 2))))), fun Q hq => ?_⟩
  have hm2 := m_le C.hm
  -- found, first = [], place_of_lists(calls, place)
  refine ⟨by decide, fun p hp => ?_⟩
  have e0 := Evl.Ex.new (o := .lst []) hp
  refine (ed_callC (K := K) (R := R_place_of_lists) (Evl.ev_var (i := 0) rfl) (Evl.ex_l e0 hs) hl (ea_cons (ed_var (i := 1) rfl (hx.mono e0)) ea_nil) ⟨pl, k, n, C.at_, C.hn, rfl, rfl⟩).go fun vf H1 e1 hf => ?_
  have hf' := hf.int_of
  subst hf'
  refine ⟨_, _, rfl, ?_⟩
  have e01 := e0.trans e1
  refine q_forWE (K := K) (H := H) (items := (List.range m).map fun (i : Nat) => PyData.int (i : Int)) (we_rng (ea_cons (ed_op (ed_lsts T) (ed_ixC (Evl.ev_var (i := 0) rfl) hs (ed_var (i := 1) rfl hx) C.at_) (rd_ixT (map_some C.hm))) ea_nil) (by omega)) e01
    (fun i σ' H' => (∃ first a4 a5, σ' = [some (.ref a), some x, some (.ref p), some (.int ((first : Nat) : Int)), a4, a5] ∧ first ≤ l.length ∧ ∃ ys, rowsN i (l.drop (pl + 1 + n)) = some (ys, l.drop first) ∧ Acc K p H' (ys.map nL)) ∧ Ex H H')
    (fun H2 e2 => ⟨⟨pl + 1 + n, none, none, rfl, C.fit, [], rfl, acc_nil ((e1.trans e2) _ _ upd_same)⟩, e01.trans e2⟩) (fun _ _ _ p => p.2) ?_ ?_
  · rintro i d y σ' H3 H4 hi ⟨⟨first, a4, a5, rfl, hfl, ys, hys, ac⟩, e3⟩ e4 hy
    have him : i < m := by
      have := (List.getElem?_eq_some_iff.mp hi).1
      rw [List.length_map, List.length_range] at this
      exact this
    obtain ⟨c, hc, hcl, hrow⟩ := rows_turn C.rows him hys
    have hs4 := Evl.ex_l (e3.trans e4) hs
    -- behind = first + 1 + calls[first]
    refine b_set (K := K) (H0 := H4) (d := nI (first + 1 + c)) (Ex.refl H4) (ed_is (ed_op (ed_op (ed_var rfl (Dq.int _)) ed_int rd_add) (ed_ixC (Evl.ev_var rfl) hs4 (ed_var rfl (Dq.int _)) hc) rd_add) rfl) fun vb H5 e5 hb => ?_
    have hb' := hb.int_of
    subst hb'
    have e35 := (e3.trans e4).trans e5
    have hs5 := Evl.ex_l e35 hs
    obtain ⟨acc, hacc, hd5⟩ := ac.mono (e4.trans e5)
    have hlen : acc.length ≤ 10 := by
      rw [hd5.len, List.length_map]
      have : ∀ (i : Nat) (r : List Nat) (p : List (List Nat) × List Nat), rowsN i r = some p → p.1.length = i := by
        intro i
        induction i with
        | zero => intro r p h; cases h; rfl
        | succ i ih =>
          intro r p h
          rw [rowsN] at h
          cases hr : rowN r with
          | none => rw [hr] at h; cases h
          | some z =>
            rw [hr] at h
            dsimp only at h
            cases hr2 : rowsN i z.2 with
            | none => rw [hr2] at h; cases h
            | some z2 =>
              rw [hr2] at h
              cases h
              show z2.1.length + 1 = i + 1
              rw [ih _ _ hr2]
      rw [this i _ _ hys]
      omega
    refine Evl.q_appL (K := K) hacc (Evl.ev_var rfl) (ed_sliceC (K := K) (i := first + 1) (j := first + 1 + c) (Evl.ev_var rfl) hs5 (eo_some (ed_op (ed_var rfl (Dq.int _)) ed_int rd_add)) (eo_some (ed_var rfl (Dq.int _))) (by omega) hcl) (by omega) fun q2 H6 hq2 e6 h6 => ?_
    rw [show first + 1 + c - (first + 1) = c by omega] at h6
    exact ⟨_, rfl, ⟨first + 1 + c, _, _, rfl, hcl, _, hrow, by
      have := Acc.app hacc hd5 e6 hq2 h6
      rw [List.map_append]
      exact this⟩, Evl.Ex.mut (e35.trans e6) hp⟩
  · rintro σ' H3 ⟨⟨first, a4, a5, rfl, hfl, ys, hys, ac⟩, e3⟩
    rw [List.length_map, List.length_range, C.rows] at hys
    have e := Option.some.inj hys
    have e1 : xs = ys := congrArg Prod.fst e
    subst e1
    exact ⟨_, rfl, hq _ _ e3 ac.dq⟩
theorem sc_f_place_after : FnScope ["calls", "place", "behind", "turn"] ["calls", "place"] (defScope s_f_place_after) := ⟨rfl, rfl, rfl, by decide +kernel, rfl, by decide +kernel, by decide +kernel⟩
theorem f_place_after (T : Txt K mg) : OkF P w K mg base 2 "place_after" ["calls", "place"] (spC K R_place_after) := by
  refine okC T.d_place_after sc_f_place_after (fun l ds d h => by obtain ⟨_, _, _, _, _, _, _, rfl, _⟩ := h; rfl) (fun _ _ _ _ _ _ us hl => match us, hl with | [_, _], _ => rfl) fun f cdv A outer sh H a l vs ds d E hr hs hl hd hR => ?_
  obtain ⟨pl, k, n, m, xs, q, C, rfl, rfl⟩ := hR
  obtain ⟨x, rfl, hx⟩ := hd.one
  refine ⟨_, (pss_cons (ps_set (i := 2) sc_f_place_after.nd rfl (Or.inl rfl) (pe_callF (f_place_of_lists T) (hr.mono (by decide)) rfl (pa_cons (pv 0) (pa_cons (pv 1) pa_nil))))
    (pss_cons (ps_for PassesOwn.never rfl (pi_range1 (by rfl) T.b_range (pa_cons (pe_ix (r := rIxT K) ix_tup (pe_gr rfl T.r_LISTS) (pe_ix (r := rIxL K) ix_list (pv 0) (pv 1) (fun _ _ => rfl)) (fun _ _ => rfl)) pa_nil)) (pg_name (i := 3) sc_f_place_after.nd rfl (Or.inl rfl)) (pss_one (ps_set (i := 2) sc_f_place_after.nd rfl (Or.inl rfl) (pe_op op_add (pe_op op_add (pv 2) pe_int) (pe_ix (r := rIxL K) ix_list (pv 0) (pv 2) (fun _ _ => rfl))))))
    (pss_one (ps_ret (pv 2))))), fun Q hq => ?_⟩
  have hm2 := m_le C.hm
  refine b_set (K := K) (d := nI (pl + 1 + n)) (Ex.refl H) (ed_callC (Evl.ev_var rfl) hs hl (by walk_at "ea") ⟨pl, k, n, C.at_, C.hn, rfl, rfl⟩) fun vf H1 e1 hf => ?_
  have hf' := hf.int_of
  subst hf'
  refine q_forWE (K := K) (H := H) (items := (List.range m).map fun (i : Nat) => PyData.int (i : Int)) (we_rng (ea_cons (ed_op (ed_lsts T) (ed_ixC (Evl.ev_var (i := 0) rfl) hs (ed_var (i := 1) rfl hx) C.at_) (rd_ixT (map_some C.hm))) ea_nil) (by omega)) e1
    (fun i σ' H' => (∃ first a3, σ' = [some (.ref a), some x, some (.int ((first : Nat) : Int)), a3] ∧ first ≤ l.length ∧ ∃ ys, rowsN i (l.drop (pl + 1 + n)) = some (ys, l.drop first)) ∧ Ex H H')
    (fun H2 e2 => ⟨⟨pl + 1 + n, none, rfl, C.fit, [], rfl⟩, e1.trans e2⟩) (fun _ _ _ p => p.2) ?_ ?_
  · rintro i d y σ' H3 H4 hi ⟨⟨first, a3, rfl, hfl, ys, hys⟩, e3⟩ e4 hy
    have him : i < m := by
      have := (List.getElem?_eq_some_iff.mp hi).1
      rw [List.length_map, List.length_range] at this
      exact this
    obtain ⟨c, hc, hcl, hrow⟩ := rows_turn C.rows him hys
    have hs4 := Evl.ex_l (e3.trans e4) hs
    refine b_set1 (K := K) (H0 := H4) (d := nI (first + 1 + c)) (Ex.refl H4) (ed_is (ed_op (ed_op (ed_var rfl (Dq.int _)) ed_int rd_add) (ed_ixC (Evl.ev_var rfl) hs4 (ed_var rfl (Dq.int _)) hc) rd_add) rfl) fun vb H5 e5 hb => ?_
    have hb' := hb.int_of
    subst hb'
    exact ⟨⟨first + 1 + c, _, rfl, hcl, _, hrow⟩, (e3.trans e4).trans e5⟩
  · rintro σ' H3 ⟨⟨first, a3, rfl, hfl, ys, hys⟩, e3⟩
    rw [List.length_map, List.length_range, C.rows] at hys
    have e := Option.some.inj hys
    have e2 : l.drop q = l.drop first := congrArg Prod.snd e
    have e3' := drop_inj C.hq hfl e2
    subst e3'
    exact ⟨_, rfl, hq _ _ e3 (Dq.int _)⟩
end
end Sb
/-! ### N. what an operation leaves; the flat calls; the door -/
namespace Sb
open PySem PySem.Spec PyProof.Rows L2
open Evl (Ex Ev EvT EvL)
open Kv437 (Stand Block Operation)
local macro_rules | `(tactic| walk_at "rd") => `(tactic| first | exact rd_add | exact rd_sub | exact rd_lt | exact rd_le | exact rd_gt | exact rd_ge | exact rd_eq | exact rd_ne | exact rd_ixL (j := 0) rfl | exact rd_ixL (j := 1) rfl)
local macro_rules | `(tactic| walk_at "ed") => `(tactic| first
  | exact ed_int | exact ed_bl
  | (refine' ed_var rfl ?h; (case h => assumption))
  | (refine' ed_op ?a ?b ?c; (case a => walk_at "ed"); (case b => walk_at "ed"); (case c => walk_at "rd"))
  | (refine' ed_cb ?a ?c; (case a => walk_at "ea"); (case c => first | exact rc_len | exact rc_min | exact rc_max | exact rc_list))
  | (refine' ed_notV ?a; walk_at "ed")
  | (refine' ed_tup ?a ?b; (case a => walk_at "ea"); (case b => simp))
  | (refine' ed_lst ?a ?b; (case a => walk_at "ea"); (case b => simp)))
local macro_rules | `(tactic| walk_at "ea") => `(tactic| first | exact ea_nil | (refine' ea_cons ?a ?b; (case a => walk_at "ed"); (case b => walk_at "ea")))
local macro_rules | `(tactic| walk_at "et") => `(tactic| first
  | (refine' et_not ?a; (case a => walk_at "et"))
  | (refine' et_t ?a; (case a => walk_at "ed"))
  | (refine' et_b ?a; (case a => walk_at "ed")))

/-! the state stays well -/
theorem pure8 (s : Stand) : (dStep .listBlocks s).1 = s := rfl
theorem pure9 (s : Stand) (i : Nat) : (dStep (.neighbors i) s).1 = s := by
  unfold dStep
  rw [run9]
  split <;> rfl
theorem pure11 (s : Stand) : (dStep .emptySeats s).1 = s := by
  unfold dStep
  rw [run11]
  cases s.best 0 <;> rfl
theorem pure13 (s : Stand) : (dStep .maxAway s).1 = s := by
  unfold dStep
  rw [run13]
  cases s.validAllocations 0 <;> rfl
theorem pure14 (s : Stand) (a : List Nat) : (dStep (.isValid a) s).1 = s := by
  unfold dStep
  rw [run14]
  split <;> rfl
theorem pure15 (s : Stand) (a : List Nat) : (dStep (.soldSeats a) s).1 = s := by
  unfold dStep
  rw [run15]
  split <;> rfl
theorem pure16 (s : Stand) (v w : List Nat) : (dStep (.join v w) s).1 = s := by
  unfold dStep
  rw [run16]
  split <;> rfl
theorem pure17 (s : Stand) (v w : List Nat) : (dStep (.meet v w) s).1 = s := by
  unfold dStep
  rw [run17]
  split <;> rfl
theorem pure18 (s : Stand) (i a : Nat) : (dStep (.soldIfAssigned i a) s).1 = s := by
  unfold dStep
  rw [run18]
  split
  · rfl
  · split <;> rfl
theorem pure19 (s : Stand) (i : Nat) : (dStep (.soldIfClosed i) s).1 = s := by
  unfold dStep
  rw [run19]
  split <;> rfl
def quL : List Nat := [8, 9, 10, 11, 12, 13, 14, 15, 16, 17, 18, 19, 20, 22]
def edL : List Nat := [1, 2, 3, 4, 5, 6, 7, 21]
theorem pureQ {k : Nat} (hk : k ∈ quL) : ∀ ns ls op s, Dd k ns ls op → (dStep op s).1 = s := by
  intro ns ls op s d
  cases d with
  | k8 => exact pure8 s
  | k9 => exact pure9 s _
  | k10 => rfl
  | k11 => exact pure11 s
  | k12 => rfl
  | k13 => exact pure13 s
  | k14 => exact pure14 s _
  | k15 => exact pure15 s _
  | k16 => exact pure16 s _ _
  | k17 => exact pure17 s _ _
  | k18 => exact pure18 s _ _
  | k19 => exact pure19 s _
  | k20 => rfl
  | k22 => rfl
  | _ => exact absurd hk (by decide)
theorem mem_modify {α : Type} {l : List α} {i : Nat} {f : α → α} {b : α} (h : b ∈ l.modify i f) : ∃ c ∈ l, b = c ∨ b = f c := by
  obtain ⟨j, hj⟩ := List.getElem?_of_mem h
  rw [List.getElem?_modify] at hj
  obtain ⟨c, hc, hcb⟩ := Option.map_eq_some_iff.mp hj
  refine ⟨c, List.mem_of_getElem? hc, ?_⟩
  by_cases hij : i = j
  · rw [if_pos hij] at hcb
    exact .inr hcb.symm
  · rw [if_neg hij] at hcb
    exact .inl hcb.symm
theorem Ok.empty : Ok ⟨[], []⟩ := ⟨by decide, fun b h => absurd h (by simp), fun p h => absurd h (by simp), List.nodup_nil⟩
theorem Ok.step {s : Stand} {k : Nat} {ns : List Nat} {ls : List (List Nat)} {op : Operation} (h : Ok s) (d : Dd k ns ls op) : Ok (dStep op s).1 := by
  by_cases hq : k ∈ quL
  · rw [pureQ hq ns ls op s d]
    exact h
  cases d with
  | k1 n =>
    unfold dStep
    rw [run1]
    split
    · exact h
    · split
      · exact h
      · rename_i h1 h2
        refine ⟨?_, fun b hb => ?_, fun p hp => ?_, h.nd⟩
        · show (s.blocks ++ ([⟨n, 0⟩] : List Block)).length ≤ 6
          rw [List.length_append]
          show s.blocks.length + 1 ≤ 6
          omega
        · have hb : b ∈ s.blocks ++ ([⟨n, 0⟩] : List Block) := hb
          rcases List.mem_append.mp hb with hb | hb
          · exact h.bl b hb
          · have : b = ⟨n, 0⟩ := by simpa using hb
            rw [this]
            exact ⟨by show n ≤ 99; omega, by show 0 ≤ 3; omega⟩
        · have := h.ad p hp
          show p.1 < p.2 ∧ p.2 < (s.blocks ++ ([⟨n, 0⟩] : List Block)).length
          rw [List.length_append]
          omega
  | k2 =>
    unfold dStep
    rw [run2]
    split
    · exact h
    · rename_i hne
      have h6 := h.n6
      refine ⟨?_, fun b hb => h.bl b (List.dropLast_subset _ hb), fun p hp => ?_, h.nd.filter _⟩
      · show s.blocks.dropLast.length ≤ 6
        rw [List.length_dropLast]
        omega
      · obtain ⟨h1, h2⟩ := List.mem_filter.mp hp
        have := h.ad p h1
        rw [Bool.and_eq_true, bne_iff_ne, bne_iff_ne] at h2
        show p.1 < p.2 ∧ p.2 < s.blocks.dropLast.length
        rw [List.length_dropLast]
        omega
  | k3 i n =>
    unfold dStep
    rw [run3]
    split
    · exact h
    · split
      · exact h
      · refine ⟨?_, fun b hb => ?_, fun p hp => ?_, h.nd⟩
        · show (s.blocks.modify i _).length ≤ 6
          rw [List.length_modify]
          exact h.n6
        · obtain ⟨c, hc, e⟩ := mem_modify (show b ∈ s.blocks.modify i _ from hb)
          have := h.bl c hc
          rcases e with e | e
          · rw [e]
            exact this
          · rw [e]
            exact ⟨by show n ≤ 99; omega, this.2⟩
        · show p.1 < p.2 ∧ p.2 < (s.blocks.modify i _).length
          rw [List.length_modify]
          exact h.ad p hp
  | k4 i a =>
    unfold dStep
    rw [run4]
    split
    · exact h
    · split
      · exact h
      · exact h.withA i a (by omega)
  | k5 i j =>
    unfold dStep
    rw [run5]
    split
    · exact h
    · split
      · exact h
      · split
        · exact h
        · rename_i h1 h2 h3
          have hi : i < s.blocks.length := Decidable.byContradiction fun z => h1 (.inl (noB z))
          have hj : j < s.blocks.length := Decidable.byContradiction fun z => h1 (.inr (noB z))
          rw [adj_spec h] at h3
          refine ⟨h.n6, h.bl, fun p hp => ?_, ?_⟩
          · have hp : p ∈ s.adjacency ++ [(min i j, max i j)] := hp
            rcases List.mem_append.mp hp with hp | hp
            · exact h.ad p hp
            · have : p = (min i j, max i j) := by simpa using hp
              rw [this]
              show min i j < max i j ∧ max i j < s.blocks.length
              omega
          · show (s.adjacency ++ [(min i j, max i j)]).Nodup
            rw [List.nodup_append]
            refine ⟨h.nd, by simp, fun a ha b hb e => ?_⟩
            have : b = (min i j, max i j) := by simpa using hb
            subst this
            subst e
            exact h3 (List.any_eq_true.mpr ⟨_, ha, decide_eq_true rfl⟩)
  | k6 i j =>
    unfold dStep
    rw [run6]
    split
    · exact h
    · split
      · exact h
      · exact ⟨h.n6, h.bl, fun p hp => h.ad p (List.mem_filter.mp hp).1, h.nd.filter _⟩
  | k7 =>
    refine ⟨?_, fun b hb => ?_, fun p hp => ?_, h.nd⟩
    · show (s.blocks.map _).length ≤ 6
      rw [List.length_map]
      exact h.n6
    · obtain ⟨c, hc, rfl⟩ := List.mem_map.mp (show b ∈ s.blocks.map _ from hb)
      have := h.bl c hc
      refine ⟨this.1, ?_⟩
      show (if c.assignment = 1 then 2 else if c.assignment = 2 then 1 else c.assignment) ≤ 3
      split
      · omega
      · split <;> omega
    · show p.1 < p.2 ∧ p.2 < (s.blocks.map _).length
      rw [List.length_map]
      exact h.ad p hp
  | k21 =>
    unfold dStep
    rw [run21]
    cases hb : s.best 0 with
    | none => exact h
    | some a =>
      obtain ⟨u1, u2⟩ := best_uses h hb
      have hl : ((s.blocks.zip a).map fun q => ({ q.1 with assignment := if q.2 = 0 then 3 else q.2 } : Block)).length = s.blocks.length := by
        rw [List.length_map, List.length_zip, u1, Nat.min_self]
      refine ⟨?_, fun b hb => ?_, fun p hp => ?_, h.nd⟩
      · show ((s.blocks.zip a).map _).length ≤ 6
        rw [hl]
        exact h.n6
      · obtain ⟨q, hq, rfl⟩ := List.mem_map.mp (show b ∈ (s.blocks.zip a).map _ from hb)
        have h1 := h.bl q.1 (List.of_mem_zip hq).1
        have h2 := u2 q.2 (List.of_mem_zip hq).2
        refine ⟨h1.1, ?_⟩
        show (if q.2 = 0 then 3 else q.2) ≤ 3
        split <;> omega
      · show p.1 < p.2 ∧ p.2 < ((s.blocks.zip a).map _).length
        rw [hl]
        exact h.ad p hp
  | _ => exact absurd (by decide) hq
/-! ### the flat calls -/
abbrev cI (l : List Nat) : List Int := l.map fun n : Nat => (n : Int)
theorem row_cast : ∀ r : List Nat, PyFlat.row (cI r) = (rowN r).map fun p => (cI p.1, cI p.2)
  | [] => rfl
  | n :: r => by
    rw [rowN_cons]
    show (if 0 ≤ (n : Int) ∧ (n : Int).toNat ≤ (cI r).length then some ((cI r).take (n : Int).toNat, (cI r).drop (n : Int).toNat) else none) = _
    rw [List.length_map, Int.toNat_natCast]
    by_cases h : n ≤ r.length
    · rw [if_pos ⟨by omega, h⟩, if_pos h, ← List.map_take, ← List.map_drop]
      rfl
    · rw [if_neg (fun z => h z.2), if_neg h]
      rfl
theorem rows_cast : ∀ (m : Nat) (r : List Nat), PyFlat.rows m (cI r) = (rowsN m r).map fun p => (p.1.map cI, cI p.2)
  | 0, r => rfl
  | m + 1, r => by
    rw [PyFlat.rows, rowsN, row_cast]
    cases h : rowN r with
    | none => rfl
    | some p =>
      obtain ⟨x, s⟩ := p
      show (match PyFlat.rows m (cI s) with | none => none | some (xs, t) => some (cI x :: xs, t)) = _
      rw [rows_cast m s]
      cases h2 : rowsN m s with
      | none => simp [h2]
      | some q => simp [h2]
theorem rowN_drop {r x t : List Nat} (h : rowN r = some (x, t)) : ∃ j, j ≤ r.length ∧ t = r.drop j ∧ x.length ≤ r.length := by
  cases r with
  | nil => cases h
  | cons n r =>
    rw [rowN_cons] at h
    by_cases hn : n ≤ r.length
    · rw [if_pos hn] at h
      cases h
      refine ⟨n + 1, by simpa using hn, rfl, ?_⟩
      rw [List.length_take, List.length_cons]
      omega
    · rw [if_neg hn] at h
      cases h
theorem rowsN_drop : ∀ {m : Nat} {r : List Nat} {xs : List (List Nat)} {t : List Nat}, rowsN m r = some (xs, t) → ∃ j, j ≤ r.length ∧ t = r.drop j ∧ xs.length = m ∧ ∀ x ∈ xs, x.length ≤ r.length
  | 0, r, xs, t, h => by
    cases h
    exact ⟨0, Nat.zero_le _, rfl, rfl, fun x hx => absurd hx (by simp)⟩
  | m + 1, r, xs, t, h => by
    rw [rowsN] at h
    cases h1 : rowN r with
    | none => rw [h1] at h; cases h
    | some p =>
      obtain ⟨x, s⟩ := p
      rw [h1] at h
      dsimp only at h
      cases h2 : rowsN m s with
      | none => rw [h2] at h; cases h
      | some q =>
        obtain ⟨ys, t2⟩ := q
        rw [h2] at h
        cases h
        obtain ⟨j1, a1, rfl, a3⟩ := rowN_drop h1
        obtain ⟨j2, b1, rfl, b3, b4⟩ := rowsN_drop h2
        rw [List.length_drop] at b1
        refine ⟨j1 + j2, by omega, List.drop_drop, by rw [List.length_cons, b3], fun y hy => ?_⟩
        rcases List.mem_cons.mp hy with rfl | hy
        · exact a3
        · have := b4 y hy
          rw [List.length_drop] at this
          omega
theorem shape_nat {k n m : Nat} (h : PyKv437.shape (k : Int) = some (n, m)) : numL[k]? = some n ∧ lstL[k]? = some m := by
  by_cases hk : k < 23
  · have : k = 0 ∨ k = 1 ∨ k = 2 ∨ k = 3 ∨ k = 4 ∨ k = 5 ∨ k = 6 ∨ k = 7 ∨ k = 8 ∨ k = 9 ∨ k = 10 ∨ k = 11 ∨ k = 12 ∨ k = 13 ∨ k = 14 ∨ k = 15 ∨ k = 16 ∨ k = 17 ∨ k = 18 ∨ k = 19 ∨ k = 20 ∨ k = 21 ∨ k = 22 := by omega
    rcases this with rfl | rfl | rfl | rfl | rfl | rfl | rfl | rfl | rfl | rfl | rfl | rfl | rfl | rfl | rfl | rfl | rfl | rfl | rfl | rfl | rfl | rfl | rfl <;> (cases h; exact ⟨rfl, rfl⟩)
  · unfold PyKv437.shape at h
    repeat rw [if_neg (by omega)] at h
    cases h
theorem shape_of {k n m : Nat} (h1 : numL[k]? = some n) (h2 : lstL[k]? = some m) : PyKv437.shape (k : Int) = some (n, m) := by
  have hk : k < 23 := (List.getElem?_eq_some_iff.mp h1).1
  have : k = 0 ∨ k = 1 ∨ k = 2 ∨ k = 3 ∨ k = 4 ∨ k = 5 ∨ k = 6 ∨ k = 7 ∨ k = 8 ∨ k = 9 ∨ k = 10 ∨ k = 11 ∨ k = 12 ∨ k = 13 ∨ k = 14 ∨ k = 15 ∨ k = 16 ∨ k = 17 ∨ k = 18 ∨ k = 19 ∨ k = 20 ∨ k = 21 ∨ k = 22 := by omega
  rcases this with rfl | rfl | rfl | rfl | rfl | rfl | rfl | rfl | rfl | rfl | rfl | rfl | rfl | rfl | rfl | rfl | rfl | rfl | rfl | rfl | rfl | rfl | rfl <;> (cases h1; cases h2; rfl)
/-- a call as the specification has it -/
abbrev callI (k : Nat) (ns : List Nat) (xs : List (List Nat)) : List (List Int) := ((k : Int) :: cI ns) :: xs.map cI
theorem call_at {l : List Nat} {pl : Nat} {c : List (List Int)} {t : List Int} (hl : pl < l.length) (h : PyFlat.call PyKv437.shape (cI (l.drop pl)) = some (c, t)) :
    ∃ k n m xs q, CallAt l pl k n m xs q ∧ c = callI k ((l.drop (pl + 1)).take n) xs ∧ t = cI (l.drop q) ∧ pl < q ∧ ((l.drop (pl + 1)).take n).length = n ∧ xs.length = m ∧ ∀ x ∈ xs, x.length ≤ l.length := by
  have hd : l.drop pl = l[pl] :: l.drop (pl + 1) := List.drop_eq_getElem_cons hl
  rw [hd] at h
  have h : (match PyKv437.shape ((l[pl] : Nat) : Int) with
    | none => none
    | some (n, k) => if (cI (l.drop (pl + 1))).length < n then none else match PyFlat.rows k ((cI (l.drop (pl + 1))).drop n) with
      | none => none
      | some (xs, t) => some ((((l[pl] : Nat) : Int) :: (cI (l.drop (pl + 1))).take n) :: xs, t)) = some (c, t) := h
  cases hs : PyKv437.shape ((l[pl] : Nat) : Int) with
  | none => rw [hs] at h; cases h
  | some nm =>
    obtain ⟨n, m⟩ := nm
    rw [hs] at h
    dsimp only at h
    obtain ⟨s1, s2⟩ := shape_nat hs
    by_cases hn : (cI (l.drop (pl + 1))).length < n
    · rw [if_pos hn] at h
      cases h
    · rw [if_neg hn, ← List.map_drop, List.drop_drop, rows_cast] at h
      rw [List.length_map, List.length_drop] at hn
      cases hr : rowsN m (l.drop (pl + 1 + n)) with
      | none => rw [hr] at h; cases h
      | some p =>
        obtain ⟨xs, t2⟩ := p
        rw [hr] at h
        obtain ⟨j, j1, rfl, j3, j4⟩ := rowsN_drop hr
        rw [List.length_drop] at j1
        rw [List.drop_drop] at hr h
        have h := Option.some.inj h
        have hc : ((((l[pl] : Nat) : Int) :: (cI (l.drop (pl + 1))).take n) :: xs.map cI) = c := congrArg Prod.fst h
        have ht : cI (l.drop (pl + 1 + n + j)) = t := congrArg Prod.snd h
        refine ⟨l[pl], n, m, xs, pl + 1 + n + j, ⟨List.getElem?_eq_getElem hl, s1, s2, by omega, hr, by omega⟩, ?_, ht.symm, by omega, ?_, j3, fun x hx => ?_⟩
        · rw [← hc, ← List.map_take]
        · rw [List.length_take, List.length_drop]
          omega
        · have := j4 x hx
          rw [List.length_drop] at this
          omega
theorem nats_back (l : List Nat) : Kv437Neutral.naturals (cI l) = l := by
  unfold Kv437Neutral.naturals
  rw [List.map_map]
  have : (Int.toNat ∘ fun n : Nat => (n : Int)) = id := funext fun n => Int.toNat_natCast n
  rw [this, List.map_id]
/-- a call has an operation -/
theorem op_of {k n m : Nat} {ns : List Nat} {xs : List (List Nat)} (h1 : numL[k]? = some n) (h2 : lstL[k]? = some m) (hn : ns.length = n) (hm : xs.length = m) :
    (k = 0 ∧ Kv437Neutral.operationOf (callI k ns xs) = some .create) ∨ (k ≠ 0 ∧ ∃ op, Dd k ns xs op ∧ Kv437Neutral.operationOf (callI k ns xs) = some op) := by
  have hk : k < 23 := (List.getElem?_eq_some_iff.mp h1).1
  have : k = 0 ∨ k = 1 ∨ k = 2 ∨ k = 3 ∨ k = 4 ∨ k = 5 ∨ k = 6 ∨ k = 7 ∨ k = 8 ∨ k = 9 ∨ k = 10 ∨ k = 11 ∨ k = 12 ∨ k = 13 ∨ k = 14 ∨ k = 15 ∨ k = 16 ∨ k = 17 ∨ k = 18 ∨ k = 19 ∨ k = 20 ∨ k = 21 ∨ k = 22 := by omega
  have one : ∀ {α : Type} {l : List α}, l.length = 1 → ∃ a, l = [a] := fun {α l} h => match l, h with | [a], _ => ⟨a, rfl⟩
  have two : ∀ {α : Type} {l : List α}, l.length = 2 → ∃ a b, l = [a, b] := fun {α l} h => match l, h with | [a, b], _ => ⟨a, b, rfl⟩
  have nil : ∀ {α : Type} {l : List α}, l.length = 0 → l = [] := fun {α l} h => List.length_eq_zero_iff.mp h
  rcases this with rfl | rfl | rfl | rfl | rfl | rfl | rfl | rfl | rfl | rfl | rfl | rfl | rfl | rfl | rfl | rfl | rfl | rfl | rfl | rfl | rfl | rfl | rfl <;> cases h1 <;> cases h2
  · exact .inl ⟨rfl, rfl⟩
  · obtain ⟨a, rfl⟩ := one hn
    exact .inr ⟨by decide, _, .k1 a xs, rfl⟩
  · exact .inr ⟨by decide, _, .k2 ns xs, rfl⟩
  · obtain ⟨a, b, rfl⟩ := two hn
    exact .inr ⟨by decide, _, .k3 a b xs, rfl⟩
  · obtain ⟨a, b, rfl⟩ := two hn
    exact .inr ⟨by decide, _, .k4 a b xs, rfl⟩
  · obtain ⟨a, b, rfl⟩ := two hn
    exact .inr ⟨by decide, _, .k5 a b xs, rfl⟩
  · obtain ⟨a, b, rfl⟩ := two hn
    exact .inr ⟨by decide, _, .k6 a b xs, rfl⟩
  · exact .inr ⟨by decide, _, .k7 ns xs, rfl⟩
  · exact .inr ⟨by decide, _, .k8 ns xs, rfl⟩
  · obtain ⟨a, rfl⟩ := one hn
    exact .inr ⟨by decide, _, .k9 a xs, rfl⟩
  · exact .inr ⟨by decide, _, .k10 ns xs, rfl⟩
  · exact .inr ⟨by decide, _, .k11 ns xs, rfl⟩
  · obtain ⟨a, rfl⟩ := one hn
    exact .inr ⟨by decide, _, .k12 a xs, rfl⟩
  · exact .inr ⟨by decide, _, .k13 ns xs, rfl⟩
  · obtain ⟨a, rfl⟩ := one hm
    refine .inr ⟨by decide, _, .k14 ns a, ?_⟩
    show some (Operation.isValid (Kv437Neutral.naturals (cI a))) = _
    rw [nats_back]
  · obtain ⟨a, rfl⟩ := one hm
    refine .inr ⟨by decide, _, .k15 ns a, ?_⟩
    show some (Operation.soldSeats (Kv437Neutral.naturals (cI a))) = _
    rw [nats_back]
  · obtain ⟨a, b, rfl⟩ := two hm
    refine .inr ⟨by decide, _, .k16 ns a b, ?_⟩
    show some (Operation.join (Kv437Neutral.naturals (cI a)) (Kv437Neutral.naturals (cI b))) = _
    rw [nats_back, nats_back]
  · obtain ⟨a, b, rfl⟩ := two hm
    refine .inr ⟨by decide, _, .k17 ns a b, ?_⟩
    show some (Operation.meet (Kv437Neutral.naturals (cI a)) (Kv437Neutral.naturals (cI b))) = _
    rw [nats_back, nats_back]
  · obtain ⟨a, b, rfl⟩ := two hn
    exact .inr ⟨by decide, _, .k18 a b xs, rfl⟩
  · obtain ⟨a, rfl⟩ := one hn
    exact .inr ⟨by decide, _, .k19 a xs, rfl⟩
  · exact .inr ⟨by decide, _, .k20 ns xs, rfl⟩
  · exact .inr ⟨by decide, _, .k21 ns xs, rfl⟩
  · exact .inr ⟨by decide, _, .k22 ns xs, rfl⟩
theorem whole_id (c : List (List Int)) : PyKv437.whole c = c := by
  unfold PyKv437.whole
  split <;> rfl
/-- the state behind a call, its answer -/
def outA (k : Nat) (op : Operation) (st : Option Stand) : Option Stand × List Int := if k = 0 then (st, [0]) else match st with
  | none => (none, [-11])
  | some s => (some (dStep op s).1, (dStep op s).2)
def mkS (st : Option Stand) : Kv437.State := st.map fun s => ⟨s⟩
theorem step0 {st : Option Stand} {c : List (List Int)} (h : Kv437Neutral.operationOf c = some .create) : Kv437Neutral.step (mkS st) c = (mkS (some ⟨[], []⟩), [0]) := by
  unfold Kv437Neutral.step
  rw [h]
  cases st <;> rfl
theorem stepK {st : Option Stand} {c : List (List Int)} {k : Nat} {ns : List Nat} {ls : List (List Nat)} {op : Operation} (hk : k ≠ 0) (d : Dd k ns ls op) (h : Kv437Neutral.operationOf c = some op) : Kv437Neutral.step (mkS st) c = (mkS (outA k op st).1, (outA k op st).2) := by
  unfold Kv437Neutral.step outA
  rw [h, if_neg hk]
  cases st with
  | none => cases d <;> rfl
  | some s => rfl
end Sb
/-! ### O. edit_answer, query_answer, answer_at, answers -/
namespace Sb
open PySem PySem.Spec PyProof.Rows L2
open Evl (Ex Ev EvT EvL)
open Kv437 (Stand Block Operation)
local macro_rules | `(tactic| walk_at "rd") => `(tactic| first | exact rd_add | exact rd_sub | exact rd_lt | exact rd_le | exact rd_gt | exact rd_ge | exact rd_eq | exact rd_ne | exact rd_ixL (j := 0) rfl | exact rd_ixL (j := 1) rfl)
local macro_rules | `(tactic| walk_at "ed") => `(tactic| first
  | exact ed_int | exact ed_bl
  | (refine' ed_var rfl ?h; (case h => assumption))
  | (refine' ed_op ?a ?b ?c; (case a => walk_at "ed"); (case b => walk_at "ed"); (case c => walk_at "rd"))
  | (refine' ed_cb ?a ?c; (case a => walk_at "ea"); (case c => first | exact rc_len | exact rc_min | exact rc_max | exact rc_list))
  | (refine' ed_notV ?a; walk_at "ed")
  | (refine' ed_tup ?a ?b; (case a => walk_at "ea"); (case b => simp))
  | (refine' ed_lst ?a ?b; (case a => walk_at "ea"); (case b => simp)))
local macro_rules | `(tactic| walk_at "ea") => `(tactic| first | exact ea_nil | (refine' ea_cons ?a ?b; (case a => walk_at "ed"); (case b => walk_at "ea")))
local macro_rules | `(tactic| walk_at "et") => `(tactic| first
  | (refine' et_not ?a; (case a => walk_at "et"))
  | (refine' et_t ?a; (case a => walk_at "ed"))
  | (refine' et_b ?a; (case a => walk_at "ed")))

/-- the defs of the two tables -/
def edTab : List (Nat × Str) := [(1, "add_block"), (2, "remove_last_block"), (3, "set_seats"), (4, "assign"), (5, "connect"), (6, "disconnect"), (7, "swap_teams"), (21, "fix_best")]
def quTab : List (Nat × Str) := [(8, "list_blocks"), (9, "neighbors"), (10, "tell_best_allocation"), (11, "empty_seats"), (12, "best_with_away"), (13, "max_away"), (14, "tell_is_valid"), (15, "sold_seats"), (16, "tell_join"), (17, "tell_meet"), (18, "sold_if_assigned"), (19, "sold_if_closed"), (20, "count_valid"), (22, "get_state")]
def tabK (K : PySem.W.Frag) (t : List (Nat × Str)) : List (Int × Addr) := t.map fun p => ((p.1 : Int), He.ga K p.2)
theorem edTab_eq (K : PySem.W.Frag) : tabK K edTab = [(1, He.ga K "add_block"), (2, He.ga K "remove_last_block"), (3, He.ga K "set_seats"), (4, He.ga K "assign"), (5, He.ga K "connect"), (6, He.ga K "disconnect"), (7, He.ga K "swap_teams"), (21, He.ga K "fix_best")] := rfl
theorem quTab_eq (K : PySem.W.Frag) : tabK K quTab = [(8, He.ga K "list_blocks"), (9, He.ga K "neighbors"), (10, He.ga K "tell_best_allocation"), (11, He.ga K "empty_seats"), (12, He.ga K "best_with_away"), (13, He.ga K "max_away"), (14, He.ga K "tell_is_valid"), (15, He.ga K "sold_seats"), (16, He.ga K "tell_join"), (17, He.ga K "tell_meet"), (18, He.ga K "sold_if_assigned"), (19, He.ga K "sold_if_closed"), (20, He.ga K "count_valid"), (22, He.ga K "get_state")] := rfl
theorem tab_lookup (K : PySem.W.Frag) : ∀ (t : List (Nat × Str)) (k : Nat), (tabK K t).lookup (k : Int) = (t.lookup k).map fun x => He.ga K x
  | [], k => rfl
  | (j, x) :: t, k => by
    have ih := tab_lookup K t k
    unfold tabK at ih ⊢
    rw [List.map_cons, List.lookup_cons, List.lookup_cons]
    by_cases h : k = j
    · subst h
      simp
    · have e1 : ((k : Int) == (j : Int)) = false := beq_eq_false_iff_ne.mpr (by omega)
      have e2 : (k == j) = false := beq_eq_false_iff_ne.mpr h
      rw [e1, e2]
      exact ih
/-- which def, with which promise -/
def SelT (K : PySem.W.Frag) (t : List (Nat × Str)) : Addr → Sp → Prop := fun f sp => ∃ k x, t.lookup k = some x ∧ f = He.ga K x ∧ sp = spD K k
theorem lookup_mem {t : List (Nat × Str)} {k : Nat} {x : Str} (h : t.lookup k = some x) : (k, x) ∈ t := by
  induction t with
  | nil => cases h
  | cons p t ih =>
    obtain ⟨j, y⟩ := p
    rw [List.lookup_cons] at h
    by_cases e : k = j
    · subst e
      simp at h
      subst h
      exact List.mem_cons_self ..
    · have e2 : (k == j) = false := beq_eq_false_iff_ne.mpr e
      rw [e2] at h
      exact List.mem_cons_of_mem _ (ih h)
section
variable {P : Program} {w : World} {K : PySem.W.Frag} {mg : Str → Option Value} {base : Heap}
theorem held_of {j k n : Nat} {x : Str} {ps : List Str} (c : OkF P w K mg base j x ps (spD K n)) (h : j ≤ k) : Held P w K mg base k (He.ga K x) (spD K n) := by
  obtain ⟨fd, F, b, m, kp⟩ := c
  exact ⟨fd, ps, F.mono h, kp, b⟩
theorem held_ed (T : Txt K mg) : ∀ f sp, SelT K edTab f sp → Held P w K mg base 5 f sp := by
  rintro f sp ⟨k, x, h, rfl, rfl⟩
  have hm := lookup_mem h
  simp only [edTab, List.mem_cons, Prod.mk.injEq, List.not_mem_nil, or_false] at hm
  rcases hm with ⟨rfl, rfl⟩ | ⟨rfl, rfl⟩ | ⟨rfl, rfl⟩ | ⟨rfl, rfl⟩ | ⟨rfl, rfl⟩ | ⟨rfl, rfl⟩ | ⟨rfl, rfl⟩ | ⟨rfl, rfl⟩
  · exact held_of (f_add_block T) (by decide)
  · exact held_of (f_remove_last_block T) (by decide)
  · exact held_of (f_set_seats T) (by decide)
  · exact held_of (f_assign T) (by decide)
  · exact held_of (f_connect T) (by decide)
  · exact held_of (f_disconnect T) (by decide)
  · exact held_of (f_swap_teams T) (by decide)
  · exact held_of (f_fix_best T) (by decide)
theorem held_qu (T : Txt K mg) : ∀ f sp, SelT K quTab f sp → Held P w K mg base 6 f sp := by
  rintro f sp ⟨k, x, h, rfl, rfl⟩
  have hm := lookup_mem h
  simp only [quTab, List.mem_cons, Prod.mk.injEq, List.not_mem_nil, or_false] at hm
  rcases hm with ⟨rfl, rfl⟩ | ⟨rfl, rfl⟩ | ⟨rfl, rfl⟩ | ⟨rfl, rfl⟩ | ⟨rfl, rfl⟩ | ⟨rfl, rfl⟩ | ⟨rfl, rfl⟩ | ⟨rfl, rfl⟩ | ⟨rfl, rfl⟩ | ⟨rfl, rfl⟩ | ⟨rfl, rfl⟩ | ⟨rfl, rfl⟩ | ⟨rfl, rfl⟩ | ⟨rfl, rfl⟩
  · exact held_of (toD (f_list_blocks T) (pureQ (by decide))) (by decide)
  · exact held_of (toD (f_neighbors T) (pureQ (by decide))) (by decide)
  · exact held_of (toD (f_tell_best_allocation T) (pureQ (by decide))) (by decide)
  · exact held_of (toD (f_empty_seats T) (pureQ (by decide))) (by decide)
  · exact held_of (toD (f_best_with_away T) (pureQ (by decide))) (by decide)
  · exact held_of (toD (f_max_away T) (pureQ (by decide))) (by decide)
  · exact held_of (toD (f_tell_is_valid T) (pureQ (by decide))) (by decide)
  · exact held_of (toD (f_sold_seats T) (pureQ (by decide))) (by decide)
  · exact held_of (toD (f_tell_join T) (pureQ (by decide))) (by decide)
  · exact held_of (toD (f_tell_meet T) (pureQ (by decide))) (by decide)
  · exact held_of (toD (f_sold_if_assigned T) (pureQ (by decide))) (by decide)
  · exact held_of (toD (f_sold_if_closed T) (pureQ (by decide))) (by decide)
  · exact held_of (toD (f_count_valid T) (pureQ (by decide))) (by decide)
  · exact held_of (toD (f_get_state T) (pureQ (by decide))) (by decide)
/-- the promise of a door of a table -/
def spE (K : PySem.W.Frag) (t : List (Nat × Str)) : Sp := fun vs H Q _ => ∃ (p : Addr) (nv lv : V) (s : Stand) (k : Nat) (ns : List Nat) (ls : List (List Nat)) (op : Operation) (x : Str), vs = [.ref p, .int (k : Int), nv, lv] ∧ t.lookup k = some x ∧ PlanAt K H p s ∧ Ok s ∧ Dq K H nv (nL ns) ∧ Dq K H lv (aL ls) ∧ (∀ l ∈ ls, l.length ≤ 30000) ∧ Dd k ns ls op ∧
  ∀ v H', ExB p H H' → PlanAt K H' p (dStep op s).1 → Dq K H' v (iI (dStep op s).2) → Q v H'
theorem spE_len {t : List (Nat × Str)} {vs : List V} {H : Hp} {Q : VK} {E : XK} (h : spE K t vs H Q E) : vs.length = 4 := by
  obtain ⟨_, _, _, _, _, _, _, _, _, rfl, _⟩ := h
  rfl
theorem sc_f_edit_answer : FnScope ["plan", "number", "numbers", "lists", "deed"] ["plan", "number", "numbers", "lists"] (defScope s_f_edit_answer) := ⟨rfl, rfl, rfl, by decide +kernel, rfl, by decide +kernel, by decide +kernel⟩
theorem f_edit_answer (T : Txt K mg) : OkF P w K mg base 6 "edit_answer" ["plan", "number", "numbers", "lists"] (spE K edTab) := by
  refine okF T.d_edit_answer sc_f_edit_answer (fun vs H Q E h => spE_len h) (fun _ _ _ _ _ _ us hl => match us, hl with | [_, _, _, _], _ => rfl) fun f cdv A outer sh H vs Q E hr h => ?_
  obtain ⟨p, nv, lv, s, k, ns, ls, op, x, rfl, hk, hP, hO, hn, hl, hz, hd, q⟩ := h
  refine ⟨_, (pss_cons (ps_set (i := 4) sc_f_edit_answer.nd rfl (Or.inl rfl) (pe_ix (ix_di T.d_EDITS) (pe_gr rfl T.r_EDITS) (pv 1) (fun _ _ => rfl)))
    (pss_one (ps_ret (pe_callR (i := 4) (held_ed T) (hr.mono (by decide)) rfl (by first | exact Or.inl rfl | exact Or.inr (Or.inl rfl)) (pa_cons (pv 0) (pa_cons (pv 2) (pa_cons (pv 3) pa_nil))))))), ?_⟩
  refine ⟨_, rfl, _, He.ga K x, rfl, rfl, ?_, ?_⟩
  · rw [← edTab_eq, tab_lookup, hk]
    rfl
  · exact ⟨_, spD K k, rfl, ⟨k, x, hk, rfl, rfl⟩, _, rfl, _, rfl, _, rfl, p, nv, lv, s, ns, ls, op, rfl, hP, hO, hn, hl, hz, hd, q⟩
theorem sc_f_query_answer : FnScope ["plan", "number", "numbers", "lists", "deed"] ["plan", "number", "numbers", "lists"] (defScope s_f_query_answer) := ⟨rfl, rfl, rfl, by decide +kernel, rfl, by decide +kernel, by decide +kernel⟩
theorem f_query_answer (T : Txt K mg) : OkF P w K mg base 7 "query_answer" ["plan", "number", "numbers", "lists"] (spE K quTab) := by
  refine okF T.d_query_answer sc_f_query_answer (fun vs H Q E h => spE_len h) (fun _ _ _ _ _ _ us hl => match us, hl with | [_, _, _, _], _ => rfl) fun f cdv A outer sh H vs Q E hr h => ?_
  obtain ⟨p, nv, lv, s, k, ns, ls, op, x, rfl, hk, hP, hO, hn, hl, hz, hd, q⟩ := h
  refine ⟨_, (pss_cons (ps_set (i := 4) sc_f_query_answer.nd rfl (Or.inl rfl) (pe_ix (ix_di T.d_QUERIES) (pe_gr rfl T.r_QUERIES) (pv 1) (fun _ _ => rfl)))
    (pss_one (ps_ret (pe_callR (i := 4) (held_qu T) (hr.mono (by decide)) rfl (by first | exact Or.inl rfl | exact Or.inr (Or.inl rfl)) (pa_cons (pv 0) (pa_cons (pv 2) (pa_cons (pv 3) pa_nil))))))), ?_⟩
  refine ⟨_, rfl, _, He.ga K x, rfl, rfl, ?_, ?_⟩
  · rw [← quTab_eq, tab_lookup, hk]
    rfl
  · exact ⟨_, spD K k, rfl, ⟨k, x, hk, rfl, rfl⟩, _, rfl, _, rfl, _, rfl, p, nv, lv, s, ns, ls, op, rfl, hP, hO, hn, hl, hz, hd, q⟩
/-! answer_at -/
def ExO (pv : V) (H H' : Hp) : Prop := ∀ b o, H b = some o → pv ≠ .ref b → H' b = some o
theorem Ex.exo {pv : V} {H H' : Hp} (e : Ex H H') : ExO pv H H' := fun b o h _ => e b o h
theorem ExB.exo {p : Addr} {H H' : Hp} (e : ExB p H H') : ExO (.ref p) H H' := fun b o h n => e b o h fun z => n (by rw [z])
theorem ExO.trans {pv : V} {H H1 H2 : Hp} (a : ExO pv H H1) (b : ExO pv H1 H2) : ExO pv H H2 := fun c o h n => b c o (a c o h n) n
def PlanO (K : PySem.W.Frag) (H : Hp) (pv : V) : Option Stand → Prop
  | none => pv = .non
  | some s => ∃ p, pv = .ref p ∧ PlanAt K H p s ∧ Ok s
theorem PlanO.mono {H H' : Hp} {pv : V} {st : Option Stand} (e : Ex H H') (h : PlanO K H pv st) : PlanO K H' pv st := by
  cases st with
  | none => exact h
  | some s =>
    obtain ⟨p, h1, h2, h3⟩ := h
    exact ⟨p, h1, h2.mono e, h3⟩
def spA (K : PySem.W.Frag) : Sp := fun vs H Q _ => ∃ pv a st l pl k n m xs q op, vs = [pv, .ref a, .int ((pl : Nat) : Int)] ∧ PlanO K H pv st ∧ SqL K H a (natV l) ∧ l.length ≤ 30000 ∧ CallAt l pl k n m xs q ∧ (∀ x ∈ xs, x.length ≤ 30000) ∧
  (k ≠ 0 → Dd k ((l.drop (pl + 1)).take n) xs op) ∧ ∀ v H', ExO pv H H' → PlanO K H' pv (outA k op st).1 → Dq K H' v (iI (outA k op st).2) → Q v H'
theorem tab_split {k : Nat} {ns : List Nat} {ls : List (List Nat)} {op : Operation} (d : Dd k ns ls op) : (∃ x, edTab.lookup k = some x) ∨ (edTab.lookup k = none ∧ ∃ x, quTab.lookup k = some x) := by
  cases d <;> first | exact .inl ⟨_, rfl⟩ | exact .inr ⟨rfl, _, rfl⟩
theorem sc_f_answer_at : FnScope ["plan", "calls", "place", "number", "numbers", "lists"] ["plan", "calls", "place"] (defScope s_f_answer_at) := ⟨rfl, rfl, rfl, by decide +kernel, rfl, by decide +kernel, by decide +kernel⟩
theorem f_answer_at (T : Txt K mg) : OkF P w K mg base 8 "answer_at" ["plan", "calls", "place"] (spA K) := by
  refine okF T.d_answer_at sc_f_answer_at (fun vs H Q E h => by obtain ⟨_, _, _, _, _, _, _, _, _, _, _, rfl, _⟩ := h; rfl) (fun _ _ _ _ _ _ us hl => match us, hl with | [_, _, _], _ => rfl) fun f cdv A outer sh H vs Q E hr h => ?_
  obtain ⟨pv0, a, st, l, pl, k, n, m, xs, q, op, rfl, hP, hs, hl, C, hx, hd, hq⟩ := h
  refine ⟨_, (pss_cons (ps_set (i := 3) sc_f_answer_at.nd rfl (Or.inl rfl) (pe_ix (r := rIxL K) ix_list (pv 1) (pv 2) (fun _ _ => rfl)))
    (pss_cons (ps_if (pt_cmpR op_eq (pv 3) (pe_gi rfl T.i_CREATE) (nomark _)) (pss_one (ps_ret (pe_lst (pa_cons pe_int pa_nil)))) pss_nil)
    (pss_cons (ps_if (pt_cmpR op_isN (pv 0) pe_non (nomark _)) (pss_one (ps_ret (pe_lst (pa_cons (pe_gi rfl T.i_NO_PLANNER) pa_nil)))) pss_nil)
    (pss_cons (ps_par (i := 4) (j := 5) rfl sc_f_answer_at.nd rfl rfl (by decide) rfl rfl (pa_cons (pe_callF (f_numbers_at T) (hr.mono (by decide)) rfl (pa_cons (pv 1) (pa_cons (pv 2) pa_nil))) (pa_cons (pe_callF (f_lists_at T) (hr.mono (by decide)) rfl (pa_cons (pv 1) (pa_cons (pv 2) pa_nil))) pa_nil)) rfl)
    (pss_cons (ps_if (pt_cmpR (op_in_di T.d_EDITS) (pv 3) (pe_gr rfl T.r_EDITS) (by rfl)) (pss_one (ps_ret (pe_callF (f_edit_answer T) (hr.mono (by decide)) rfl (pa_cons (pv 0) (pa_cons (pv 3) (pa_cons (pv 4) (pa_cons (pv 5) pa_nil))))))) pss_nil)
    (pss_one (ps_ret (pe_callF (f_query_answer T) (hr.mono (by decide)) rfl (pa_cons (pv 0) (pa_cons (pv 3) (pa_cons (pv 4) (pa_cons (pv 5) pa_nil)))))))))))), ?_⟩
  refine b_set (K := K) (d := nI k) (Ex.refl H) (ed_ixC (Evl.ev_var rfl) hs (ed_var rfl (Dq.int _)) C.at_) fun vk H1 e1 hvk => ?_
  have hvk' := hvk.int_of
  subst hvk'
  refine b_when (K := K) e1 (et_t (ed_op (ed_var rfl (Dq.int _)) ed_int rd_eq)) (fun hb H2 e2 => ?_) (fun hb H2 e2 => ?_)
  · have h := of_decide_eq_true hb
    have h0 : k = 0 := by omega
    subst h0
    exact b_ret (K := K) (d := iI [0]) e2 (by walk_at "ed") fun v H3 e3 hv => hq v H3 (Ex.exo e3) (hP.mono e3) hv
  have h := of_decide_eq_false hb
  have hk0 : k ≠ 0 := by omega
  have hd := hd hk0
  cases st with
  | none =>
    have e : pv0 = .non := hP
    subst e
    have ho : outA k op none = (none, [-11]) := if_neg hk0
    rw [ho] at hq
    refine ⟨_, rfl, rfl, true, by rw [decide_eq_true rfl], ?_⟩
    refine (if_pos rfl).mpr ?_
    exact b_ret (K := K) (d := iI [-11]) e2 (by walk_at "ed") fun v H3 e3 hv => hq v H3 (Ex.exo e3) rfl hv
  | some s =>
    obtain ⟨p, rfl, hPl, hO⟩ := hP
    have ho : outA k op (some s) = (some (dStep op s).1, (dStep op s).2) := if_neg hk0
    rw [ho] at hq
    refine ⟨_, rfl, rfl, false, by rw [decide_eq_false (fun z => by cases z)], ?_⟩
    refine (if_neg Bool.false_ne_true).mpr ?_
    refine b_par (K := K) (d1 := nL ((l.drop (pl + 1)).take n)) (d2 := aL xs) e2 (ea_cons (ed_callC (R := R_numbers_at) (Evl.ev_var rfl) hs hl (ea_cons (ed_var rfl (Dq.int _)) ea_nil) ⟨pl, k, n, C.at_, C.hn, C.fit, rfl, rfl⟩) (ea_cons (ed_callC (R := R_lists_at) (Evl.ev_var rfl) hs hl (ea_cons (ed_var rfl (Dq.int _)) ea_nil) ⟨pl, k, n, m, xs, q, C, rfl, rfl⟩) ea_nil)) fun vn vl H3 e3 hn3 hl3 => ?_
    have hend : ∀ v H', ExB p H3 H' → PlanAt K H' p (dStep op s).1 → Dq K H' v (iI (dStep op s).2) → Q v H' := fun v H' e4 h4 hv => hq v H' ((Ex.exo e3).trans (ExB.exo e4)) ⟨p, rfl, h4, hO.step hd⟩ hv
    rcases tab_split hd with ⟨x, hx1⟩ | ⟨hn1, x, hx1⟩
    · refine ⟨_, rfl, _, rfl, rfl, true, ?_, ?_⟩
      · rw [← edTab_eq, tab_lookup, hx1]
        rfl
      · refine (if_pos rfl).mpr ?_
        exact ⟨_, rfl, _, rfl, _, rfl, _, rfl, p, vn, vl, s, k, _, xs, op, x, rfl, hx1, hPl.mono e3, hO, hn3, hl3, hx, hd, hend⟩
    · refine ⟨_, rfl, _, rfl, rfl, false, ?_, ?_⟩
      · rw [← edTab_eq, tab_lookup, hn1]
        rfl
      · refine (if_neg Bool.false_ne_true).mpr ?_
        exact ⟨_, rfl, _, rfl, _, rfl, _, rfl, p, vn, vl, s, k, _, xs, op, x, rfl, hx1, hPl.mono e3, hO, hn3, hl3, hx, hd, hend⟩
end
end Sb
/-! ### P. answers -/
namespace Sb
open PySem PySem.Spec PyProof.Rows L2
open Evl (Ex Ev EvT EvL)
open Kv437 (Stand Block Operation)
local macro_rules | `(tactic| walk_at "rd") => `(tactic| first | exact rd_add | exact rd_sub | exact rd_lt | exact rd_le | exact rd_gt | exact rd_ge | exact rd_eq | exact rd_ne | exact rd_ixL (j := 0) rfl | exact rd_ixL (j := 1) rfl)
local macro_rules | `(tactic| walk_at "ed") => `(tactic| first
  | exact ed_int | exact ed_bl
  | (refine' ed_var rfl ?h; (case h => assumption))
  | (refine' ed_op ?a ?b ?c; (case a => walk_at "ed"); (case b => walk_at "ed"); (case c => walk_at "rd"))
  | (refine' ed_cb ?a ?c; (case a => walk_at "ea"); (case c => first | exact rc_len | exact rc_min | exact rc_max | exact rc_list))
  | (refine' ed_notV ?a; walk_at "ed")
  | (refine' ed_tup ?a ?b; (case a => walk_at "ea"); (case b => simp))
  | (refine' ed_lst ?a ?b; (case a => walk_at "ea"); (case b => simp)))
local macro_rules | `(tactic| walk_at "ea") => `(tactic| first | exact ea_nil | (refine' ea_cons ?a ?b; (case a => walk_at "ed"); (case b => walk_at "ea")))
local macro_rules | `(tactic| walk_at "et") => `(tactic| first
  | (refine' et_not ?a; (case a => walk_at "et"))
  | (refine' et_t ?a; (case a => walk_at "ed"))
  | (refine' et_b ?a; (case a => walk_at "ed")))

section
variable {K : PySem.W.Frag} {H H' : Hp} {fl : Addr} {o : HO} {xs : List V} {ob : Obj}
theorem rm_ex_upd : Ex (rm fl H) (upd H fl o) := fun b u h => by
  unfold rm at h
  split at h
  · cases h
  · rename_i n
    rw [upd_ne n]
    exact h
theorem ex_rm_new (h : H fl = none) : Ex H (rm fl (upd H fl o)) := fun b u hb => by
  have n : b ≠ fl := fun z => by rw [z, h] at hb; cases hb
  rw [rm_upd]
  exact rm_at hb n
/-- what stands while a list is locked does not lean on it -/
theorem sqt_lock {a : Addr} {ys : List V} (hf : H fl = some (.frz ob (.lst xs))) (h : SqT K H a ys) : SqT K (rm fl H) a ys := by
  rcases h with (h | ⟨o, h⟩) | h
  · refine .inl (.inl (rm_at h fun z => ?_))
    subst z
    rw [hf] at h
    cases h
  · refine .inl (.inr ⟨o, rm_at h fun z => ?_⟩)
    subst z
    rw [hf] at h
    cases h
  · exact .inr h
mutual
theorem Dq.lock (hf : H fl = some (.frz ob (.lst xs))) : ∀ (d : PyData) (v : V), Dq K H v d → Dq K (rm fl H) v d
  | .none, _, x => by cases x; exact .non
  | .bool b, _, x => by cases x; exact .bl b
  | .int i, _, x => by cases x; exact .int i
  | .str s, _, x => by cases x
  | .list ds, _, x => by
    cases x with
    | lst h a =>
      refine .lst (rm_at h fun z => ?_) (DqAll.lock hf ds _ a)
      subst z
      rw [hf] at h
      cases h
  | .tuple ds, _, x => by
    cases x with
    | tup h a => exact .tup (sqt_lock hf h) (DqAll.lock hf ds _ a)
  | .dict _, _, x => by cases x
theorem DqAll.lock (hf : H fl = some (.frz ob (.lst xs))) : ∀ (ds : List PyData) (vs : List V), DqAll K H vs ds → DqAll K (rm fl H) vs ds
  | [], _, x => by cases x; exact .nil
  | d :: ds, _, x => by
    cases x with
    | cons a b => exact .cons (Dq.lock hf d _ a) (DqAll.lock hf ds _ b)
end
theorem PlanO.ne {pv : V} {st : Option Stand} {z : Addr} {oz : HO} (h : PlanO K H pv st) (hz : H z = some oz) (hn : ∀ C dx fs, oz ≠ .ins C dx fs) : pv ≠ .ref z := fun e => by
  subst e
  cases st with
  | none => cases h
  | some s =>
    obtain ⟨p, e, ⟨sv, av, cv, ⟨dx, hp⟩, _⟩, _⟩ := h
    cases e
    rw [hz] at hp
    exact hn _ _ _ (Option.some.inj hp)
theorem PlanO.lock {pv : V} {st : Option Stand} (hf : H fl = some (.frz ob (.lst xs))) (h : PlanO K H pv st) : PlanO K (rm fl H) pv st := by
  cases st with
  | none => exact h
  | some s =>
    obtain ⟨p, e, ⟨sv, av, cv, ⟨dx, hp⟩, h1, h2, h3⟩, hO⟩ := h
    refine ⟨p, e, ⟨sv, av, cv, ⟨dx, rm_at hp fun z => ?_⟩, Dq.lock hf _ _ h1, Dq.lock hf _ _ h2, Dq.lock hf _ _ h3⟩, hO⟩
    subst z
    rw [hf] at hp
    cases hp
theorem rm_get {a : Addr} {u : HO} (h : rm fl H a = some u) : a ≠ fl ∧ H a = some u := by
  unfold rm at h
  by_cases z : a = fl
  · rw [if_pos z] at h
    cases h
  · rw [if_neg z] at h
    exact ⟨z, h⟩
/-- the calls' list stands through a call that changes the planner alone -/
theorem sql_step {pv : V} {st : Option Stand} {a : Addr} {ys : List V} {H4 : Hp} (hP : PlanO K (upd H fl o) pv st) (e : ExO pv (upd H fl o) H4) (h : SqL K (rm fl H) a ys) : SqL K (rm fl H4) a ys := by
  rcases h with (h | ⟨o', h⟩) | h
  · obtain ⟨n, h⟩ := rm_get h
    have h2 : upd H fl o a = some _ := (upd_ne n).trans h
    exact .inl (.inl (rm_at (e _ _ h2 (hP.ne h2 (by intro _ _ _ z; cases z))) n))
  · obtain ⟨n, h⟩ := rm_get h
    have h2 : upd H fl o a = some _ := (upd_ne n).trans h
    exact .inl (.inr ⟨o', rm_at (e _ _ h2 (hP.ne h2 (by intro _ _ _ z; cases z))) n⟩)
  · exact .inr h
theorem ed_lenC {σ : L2.St} {ta : TE} {a : Addr} {l : List Nat} (ha : Ev ta σ H (.ref a)) (hs : SqL K H a (natV l)) : ED K (tCB (fun xs H Q => ∃ p ys, xs = [.ref p] ∧ (SqL K H p ys ∨ SqT K H p ys) ∧ Q (.int ys.length) H) (tCons ta tNil)) σ H (nI l.length) := fun H1 e Q q =>
  ha H1 e _ fun H2 e2 => ⟨a, natV l, rfl, .inl (Evl.ex_l (e.trans e2) hs), by
    have := q (.int ((natV l).length : Nat)) H2 e2 (by rw [List.length_map]; exact .int _)
    exact this⟩
/-- xs.append(e), e a number -/
theorem b_app {σ : L2.St} {ta te : TE} {D : Ends} {tz : TS} {acc : List V} {i : Int} (hl : H fl = some (.lst acc)) (ha : Ev ta σ H (.ref fl)) (h : ED K te σ H (.int i)) (hz : acc.length < 16000000) (k : ∀ H1, Ex H H1 → tz D σ (upd H1 fl (.lst (acc ++ [.int i])))) :
    tSeq (tDrop (tBM K "list" rAppend ta (tCons te tNil))) tz D σ H := ha H (Ex.refl H) _ fun H1 e1 =>
  ⟨Or.inl ⟨rfl, acc, Evl.sq_of (e1 fl _ hl)⟩, h H1 e1 _ fun v H2 e2 hv => by
    have := hv.int_of
    subst this
    exact ⟨fl, acc, _, rfl, rfl, e2 fl _ (e1 fl _ hl), Nat.lt_of_lt_of_le hz (by decide), k H2 (e1.trans e2)⟩⟩
/-- xs.extend(ys), ys a list that a name holds -/
theorem b_ext {σ : L2.St} {ta tb : TE} {D : Ends} {tz : TS} {acc zs : List V} {b : Addr} (hl : H fl = some (.lst acc)) (ha : Ev ta σ H (.ref fl)) (hb : Ev tb σ H (.ref b)) (hz : H b = some (.lst zs)) (hn : acc.length + zs.length ≤ 16000000) (k : ∀ H1, Ex H H1 → tz D σ (upd H1 fl (.lst (acc ++ zs)))) :
    tSeq (tDrop (tBM K "list" rExtend ta (tCons tb tNil))) tz D σ H := ha H (Ex.refl H) _ fun H1 e1 =>
  ⟨Or.inl ⟨rfl, acc, Evl.sq_of (e1 fl _ hl)⟩, hb H1 e1 _ fun H2 e2 => ⟨fl, b, acc, zs, rfl, rfl, e2 fl _ (e1 fl _ hl), e2 b _ (e1 b _ hz), Nat.le_trans hn (by decide), k H2 (e1.trans e2)⟩⟩
end
section
variable {X : Cx} {k : Nat} {p pos : Pos}
theorem pe_makeF (T : Txt X.K X.mg) (c : OkM X.prog X.w X.K X.mg X.base k "__init__" ["self"] (spInit X.K)) (hr : Room (k + 1) X.A) (hg : Gl X "Plan") : PE X (.Call (.Name "Plan" p) [] [] pos) (tMake (He.ga X.K "Plan") (spInit X.K) [] E0 tNil) := by
  obtain ⟨fd, F, b, hm⟩ := c
  exact pe_make0 T.mkr F hr hg T.gP b .nil pass0
end
abbrev theStep := Kv437Neutral.step
/-- what is still to be answered -/
def toldS (st : Option Stand) (cs : List (List (List Int))) : List Int := PyFlat.told (PyFlat.played Kv437Neutral.step (mkS st) cs)
theorem told_step {st st2 : Option Stand} {out : List Int} {c : List (List Int)} {cs : List (List (List Int))} (h : Kv437Neutral.step (mkS st) c = (mkS st2, out)) : toldS st (c :: cs) = ((out.length : Int) :: out) ++ toldS st2 cs := by
  unfold toldS
  rw [PyFlat.played, h]
  unfold PyFlat.told
  rw [List.flatMap_cons]
theorem answers_eq {ns : List Int} {raw : List (List (List Int))} (h : PyFlat.calls PyKv437.shape ns.length ns = some raw) : PyKv437.answers ns = toldS none raw := by
  have hw : raw.map PyKv437.whole = raw := by
    have : PyKv437.whole = id := funext whole_id
    rw [this, List.map_id]
  unfold PyKv437.answers PyKv437.calls
  rw [h]
  dsimp only
  rw [hw]
  rfl
section
variable {P : Program} {w : World} {K : PySem.W.Frag} {mg : Str → Option Value} {base : Heap}
def spAns (K : PySem.W.Frag) : Sp := fun vs H Q _ => ∃ a l raw, vs = [.ref a] ∧ SqL K H a (natV l) ∧ l.length ≤ 30000 ∧ PyFlat.calls PyKv437.shape (cI l).length (cI l) = some raw ∧ (toldS none raw).length ≤ 10000000 ∧
  ∀ (H' : Hp) (p : Addr), H' p = some (.lst ((toldS none raw).map V.int)) → Q (.ref p) H'
theorem sc_f_answers : FnScope ["calls", "found", "plan", "place", "answer"] ["calls"] (defScope s_f_answers) := ⟨rfl, rfl, rfl, by decide +kernel, rfl, by decide +kernel, by decide +kernel⟩
theorem f_answers (T : Txt K mg) {fd : FuncData} (F : Fun K "answers" "answers" s_f_answers (He.ga K "answers") fd) : FnOk P w K mg base CX0 9 (He.ga K "answers") fd ["calls"] (spAns K) := by
  refine F.ok sc_f_answers (fun vs H Q E h => by obtain ⟨_, _, _, rfl, _⟩ := h; rfl) fun cdv A outer sh H vs Q E hr h => ?_
  obtain ⟨a, l, raw, rfl, hs, hl, hraw, hshort, hq⟩ := h
  refine ⟨_, (pss_cons (ps_par3 (i := 1) (j := 2) (l := 3) rfl sc_f_answers.nd rfl rfl rfl (by decide) (by decide) (by decide) rfl rfl rfl (pa_cons (pe_lst pa_nil) (pa_cons pe_non (pa_cons pe_int pa_nil))) rfl)
    (pss_cons (ps_while PassesOwn.never (pt_cmpR op_lt (pv 3) (pe_callB call_len_seq (by rfl) T.b_len PySem.boot_len (pa_cons (pv 0) pa_nil)) (nomark _)) (pss_cons (ps_lock (ps_if (pt_cmpR op_eq (pe_ix (r := rIxL K) ix_list (pv 0) (pv 3) (fun _ _ => rfl)) (pe_gi rfl T.i_CREATE) (nomark _)) (pss_one (ps_set (i := 2) sc_f_answers.nd rfl (Or.inl rfl) (pe_makeF T (m_init T) (hr.mono (by decide)) rfl))) pss_nil))
    (pss_cons (ps_lock (ps_set (i := 4) sc_f_answers.nd rfl (Or.inl rfl) (pe_callF (f_answer_at T) (hr.mono (by decide)) rfl (pa_cons (pv 2) (pa_cons (pv 0) (pa_cons (pv 3) pa_nil))))))
    (pss_cons (ps_expr (pe_bm PySem.F.plainAttrs_list PySem.F.slot_list_append PySem.F.type_list_append mt_append (pv 1) (pa_cons (pe_callB call_len_seq (by rfl) T.b_len PySem.boot_len (pa_cons (pv 4) pa_nil)) pa_nil)))
    (pss_cons (ps_expr (pe_bm PySem.F.plainAttrs_list PySem.F.slot_list_extend PySem.F.type_list_extend mt_extend (pv 1) (pa_cons (pv 4) pa_nil)))
    (pss_one (ps_set (i := 3) sc_f_answers.nd rfl (Or.inl rfl) (pe_callF (f_place_after T) (hr.mono (by decide)) rfl (pa_cons (pv 0) (pa_cons (pv 3) pa_nil))))))))))
    (pss_one (ps_ret (pv 1))))), ?_⟩
  generalize hans : toldS none raw = ans at hshort hq
  refine ⟨by decide, fun fl hfl => ⟨_, _, _, rfl, ?_⟩⟩
  refine ⟨fun m σ' H' => ∃ (pl : Nat) (st : Option Stand) (pv0 : V) (a4 : Option V) (acc : List Int) (cs : List (List (List Int))) (fu : Nat), m = l.length - pl ∧ σ' = [some (.ref a), some (.ref fl), some pv0, some (.int (pl : Int)), a4] ∧ SqL K (rm fl H') a (natV l) ∧
    H' fl = some (.lst (acc.map V.int)) ∧ PlanO K (rm fl H') pv0 st ∧ pl ≤ l.length ∧ PyFlat.calls PyKv437.shape fu (cI (l.drop pl)) = some cs ∧ acc ++ toldS st cs = ans, ⟨_, 0, none, .non, none, [], raw, (cI l).length, rfl, rfl, Evl.ex_l (ex_rm_new hfl) hs, upd_same, rfl, Nat.zero_le _, hraw, hans⟩, ?_⟩
  rintro m σ' H1 ⟨pl, st, pv0, a4, acc, cs, fu, rfl, rfl, hs1, hf1, hP1, hpl, hcs, hacc⟩
  have hs1' : SqL K H1 a (natV l) := Evl.ex_l rm_ex hs1
  refine evt_go (et_t (K := K) (ed_op (ed_var rfl (Dq.int _)) (ed_lenC (Evl.ev_var rfl) hs1') rd_lt)) fun H2 e12 => ?_
  have hs2 := Evl.ex_l (rm_mono e12) hs1
  have hf2 := e12 _ _ hf1
  have hP2 := hP1.mono (rm_mono e12)
  by_cases hlt : pl < l.length
  · rw [decide_eq_true (show (pl : Int) < (l.length : Int) by omega)]
    refine (if_pos rfl).mpr ⟨fun σ'' H'' => ∃ m', m' < l.length - pl ∧ _, fun σ'' H'' z => z, ?_⟩
    -- the call here
    have hd : l.drop pl = l[pl] :: l.drop (pl + 1) := List.drop_eq_getElem_cons hlt
    obtain ⟨c, t, cs', fu', hc, hcs', rfl⟩ : ∃ c t cs' fu', PyFlat.call PyKv437.shape (cI (l.drop pl)) = some (c, t) ∧ PyFlat.calls PyKv437.shape fu' t = some cs' ∧ cs = c :: cs' := by
      rw [hd] at hcs ⊢
      cases fu with
      | zero => cases hcs
      | succ fu =>
        have hcs : (match PyFlat.call PyKv437.shape (cI (l[pl] :: l.drop (pl + 1))) with
          | none => none
          | some (c, t) => match PyFlat.calls PyKv437.shape fu t with
            | none => none
            | some cs => some (c :: cs)) = some cs := hcs
        cases h1 : PyFlat.call PyKv437.shape (cI (l[pl] :: l.drop (pl + 1))) with
        | none => rw [h1] at hcs; cases hcs
        | some ct =>
          obtain ⟨c, t⟩ := ct
          rw [h1] at hcs
          dsimp only at hcs
          cases h2 : PyFlat.calls PyKv437.shape fu t with
          | none => rw [h2] at hcs; cases hcs
          | some cs' =>
            rw [h2] at hcs
            cases hcs
            exact ⟨c, t, cs', fu, rfl, h2, rfl⟩
    obtain ⟨k, n, m, xs, q, C, rfl, rfl, hlq, hn, hm, hxs⟩ := call_at hlt hc
    have hxs' : ∀ x ∈ xs, x.length ≤ 30000 := fun x hx => Nat.le_trans (hxs x hx) hl
    obtain ⟨op, hopk, hop0⟩ : ∃ op, (k ≠ 0 → Dd k ((l.drop (pl + 1)).take n) xs op ∧ Kv437Neutral.operationOf (callI k ((l.drop (pl + 1)).take n) xs) = some op) ∧ (k = 0 → Kv437Neutral.operationOf (callI k ((l.drop (pl + 1)).take n) xs) = some .create) := by
      rcases op_of C.hn C.hm hn hm with ⟨h0, h1⟩ | ⟨h0, op, h1, h2⟩
      · exact ⟨.create, fun z => absurd h0 z, fun _ => h1⟩
      · exact ⟨op, fun _ => ⟨h1, h2⟩, fun z => absurd z h0⟩
    -- behind «if calls[place] == CREATE: plan = Plan()»
    have rest : ∀ (pv1 : V) (st1 : Option Stand) (H3 : Hp), SqL K (rm fl H3) a (natV l) → H3 fl = some (.lst (acc.map V.int)) → PlanO K (rm fl H3) pv1 st1 → (k = 0 → st1 = some ⟨[], []⟩) → (k ≠ 0 → st1 = st) →
        ∀ (D : Ends),
        (∀ (pl2 : Nat) (st2 : Option Stand) (v4 : V) (acc2 : List Int) (H8 : Hp), pl < pl2 → pl2 ≤ l.length → SqL K (rm fl H8) a (natV l) → H8 fl = some (.lst (acc2.map V.int)) → PlanO K (rm fl H8) pv1 st2 →
          PyFlat.calls PyKv437.shape fu' (cI (l.drop pl2)) = some cs' → acc2 ++ toldS st2 cs' = ans → D.nx [some (.ref a), some (.ref fl), some pv1, some (.int (pl2 : Int)), some v4] H8) →
        tSeq (tLock (tAsg (tCall (spA K) [] E0 (tCons (tVar 2) (tCons (tVar 0) (tCons (tVar 3) tNil)))) (gName 4)))
          (tSeq (tDrop (tBM K "list" rAppend (tVar 1) (tCons (tCB (fun xs H Q => ∃ p ys, xs = [.ref p] ∧ (SqL K H p ys ∨ SqT K H p ys) ∧ Q (.int ys.length) H) (tCons (tVar 4) tNil)) tNil)))
          (tSeq (tDrop (tBM K "list" rExtend (tVar 1) (tCons (tVar 4) tNil)))
          (tAsg (tCall (spC K R_place_after) [] E0 (tCons (tVar 0) (tCons (tVar 3) tNil))) (gName 3)))) D [some (.ref a), some (.ref fl), some pv1, some (.int (pl : Int)), a4] H3 := by
      intro pv1 st1 H3 hs3 hf3 hP3 hk0 hk1 D fin
      refine ⟨fl, _, hf3, trivial, fun od => ?_⟩
      have eL := rm_ex_upd (fl := fl) (H := H3) (o := .frz od (.lst (acc.map V.int)))
      have hP4 := hP3.mono eL
      have hs4 := Evl.ex_l eL hs3
      refine ⟨_, rfl, _, rfl, _, rfl, pv1, a, st1, l, pl, k, n, m, xs, q, op, rfl, hP4, hs4, hl, C, hxs', fun z => (hopk z).1, fun v H4 eo hP5 hv => ?_⟩
      have hf4 : H4 fl = some (.frz od (.lst (acc.map V.int))) := eo _ _ upd_same (hP4.ne upd_same (by intro _ _ _ z; cases z))
      refine ⟨hf4, ?_⟩
      have hs5 : SqL K (rm fl H4) a (natV l) := sql_step hP4 eo hs3
      have hP6 := PlanO.lock hf4 hP5
      have hv6 := Dq.lock hf4 _ _ hv
      generalize hst2 : (outA k op st1).1 = st2 at hP6
      generalize hout : (outA k op st1).2 = out at hv6
      have hstep : Kv437Neutral.step (mkS st) (callI k ((l.drop (pl + 1)).take n) xs) = (mkS st2, out) := by
        by_cases hk : k = 0
        · have e1 := hk0 hk
          rw [step0 (hop0 hk)]
          unfold outA at hst2 hout
          rw [if_pos hk] at hst2 hout
          rw [← hst2, ← hout, e1]
        · have e1 := hk1 hk
          rw [stepK hk (hopk hk).1 (hopk hk).2, ← hst2, ← hout, e1]
      have htold := told_step (cs := cs') hstep
      have hacc2 : (acc ++ (out.length : Int) :: out) ++ toldS st2 cs' = ans := by
        rw [← hacc, htold]
        simp
      have hlen : acc.length + (out.length + 1) ≤ 10000000 := by
        have := congrArg List.length hacc2
        rw [List.length_append, List.length_append, List.length_cons] at this
        omega
      have hb := hv6
      obtain ⟨b, zs, rfl, hbz, hzs⟩ := hb.lst_of
      have ezs := DqAll.ints_of hzs
      subst ezs
      have hbn : b ≠ fl := fun z => by
        unfold rm at hbz
        rw [if_pos z] at hbz
        cases hbz
      have hb4 : H4 b = some (.lst (out.map V.int)) := rm_ex _ _ hbz
      have hb5 : upd H4 fl (.lst (acc.map V.int)) b = some (.lst (out.map V.int)) := by rw [upd_ne hbn]; exact hb4
      refine b_app (K := K) (i := (out.length : Int)) upd_same (Evl.ev_var rfl) (ed_is (ed_cb (ea_cons (ed_var rfl (Dq.lst (ds := out.map PyData.int) hb5 (DqAll.ints out))) ea_nil) rc_len) (by rw [List.length_map])) (by rw [List.length_map]; omega) fun H5 e5 => ?_
      have hrm5 : Ex (rm fl H4) (rm fl H5) := fun z o h => rm_mono e5 z o (by rw [rm_upd]; exact h)
      refine b_ext (K := K) (zs := out.map V.int) (b := b) upd_same (Evl.ev_var rfl) (Evl.ev_var rfl) (by rw [upd_ne hbn]; exact e5 _ _ hb5) (by rw [List.length_append, List.length_map, List.length_map]; show acc.length + 1 + out.length ≤ _; omega) fun H6 e6 => ?_
      have hrm6 : Ex (rm fl H4) (rm fl H6) := fun z o h => rm_mono e6 z o (by rw [rm_upd]; exact hrm5 z o h)
      refine b_set1 (K := K) (H0 := upd H6 fl (.lst ((acc.map V.int ++ [V.int (out.length : Int)]) ++ out.map V.int))) (d := nI q) (Ex.refl _) (ed_callC (Evl.ev_var rfl) (Evl.ex_l (fun z o h => rm_ex_upd z o (hrm6 z o h)) hs5) hl (ea_cons (ed_var rfl (Dq.int _)) ea_nil) ⟨pl, k, n, m, xs, q, C, rfl, rfl⟩) fun vq H7 e7 hvq => ?_
      have hvq' := hvq.int_of
      subst hvq'
      have hrm7 : Ex (rm fl H4) (rm fl H7) := fun z o h => rm_mono e7 z o (by rw [rm_upd]; exact hrm6 z o h)
      refine fin q st2 _ (acc ++ (out.length : Int) :: out) H7 hlq C.hq (Evl.ex_l hrm7 hs5) ?_ (hP6.mono hrm7) hcs' hacc2
      rw [e7 _ _ upd_same]
      congr 2
      simp
    -- if calls[place] == CREATE: plan = Plan()
    refine ⟨fl, _, hf2, trivial, fun od => ?_⟩
    have eL := rm_ex_upd (fl := fl) (H := H2) (o := .frz od (.lst (acc.map V.int)))
    have hP3 := hP2.mono eL
    have hs3 := Evl.ex_l eL hs2
    have fin : ∀ (pv1 : V) (pl2 : Nat) (st2 : Option Stand) (v4 : V) (acc2 : List Int) (H8 : Hp), pl < pl2 → pl2 ≤ l.length → SqL K (rm fl H8) a (natV l) → H8 fl = some (.lst (acc2.map V.int)) → PlanO K (rm fl H8) pv1 st2 →
          PyFlat.calls PyKv437.shape fu' (cI (l.drop pl2)) = some cs' → acc2 ++ toldS st2 cs' = ans → ∃ m', m' < l.length - pl ∧ ∃ (pl : Nat) (st : Option Stand) (pv0 : V) (a4 : Option V) (acc : List Int) (cs : List (List (List Int))) (fu : Nat), m' = l.length - pl ∧ [some (V.ref a), some (.ref fl), some pv1, some (.int (pl2 : Int)), some v4] = [some (.ref a), some (.ref fl), some pv0, some (.int (pl : Int)), a4] ∧ SqL K (rm fl H8) a (natV l) ∧
            H8 fl = some (.lst (acc.map V.int)) ∧ PlanO K (rm fl H8) pv0 st ∧ pl ≤ l.length ∧ PyFlat.calls PyKv437.shape fu (cI (l.drop pl)) = some cs ∧ acc ++ toldS st cs = ans :=
      fun pv1 pl2 st2 v4 acc2 H8 h1 h2 h3 h4 h5 h6 h7 => ⟨l.length - pl2, by omega, pl2, st2, pv1, _, acc2, cs', fu', rfl, rfl, h3, h4, h5, h2, h6, h7⟩
    refine b_when1 (K := K) (Ex.refl _) (et_t (ed_op (ed_ixC (Evl.ev_var rfl) hs3 (ed_var rfl (Dq.int _)) C.at_) ed_int rd_eq)) (fun hb H3 e3 => ?_) (fun hb H3 e3 => ?_)
    · have hk := of_decide_eq_true hb
      have hk0 : k = 0 := by omega
      intro x dx hx hdx hne
      have e4 : Ex H3 (upd (upd H3 dx (.own x)) x (.ins (He.ga K "Plan") dx [])) := fun z o h => by
        rw [upd_ne (ne_of_none h hx), upd_ne (ne_of_none h hdx)]
        exact h
      refine ⟨x, dx, rfl, upd_same, fun H4 eb hPl => ⟨rfl, ?_⟩⟩
      have e5 : Ex H3 H4 := fun z o h => eb z o (e4 z o h) (ne_of_none h hx)
      have hf4 : H4 fl = some (.frz od (.lst (acc.map V.int))) := e5 _ _ (e3 _ _ upd_same)
      refine ⟨hf4, ?_⟩
      refine rest (.ref x) (some ⟨[], []⟩) _ ?_ upd_same ?_ (fun _ => rfl) (fun z => absurd hk0 z) _ (fin _)
      · rw [rm_upd]
        exact Evl.ex_l (fun z o h => rm_mono (e3.trans e5) z o (by rw [rm_upd]; exact h)) hs2
      · rw [rm_upd]
        exact PlanO.lock hf4 ⟨x, rfl, hPl, Ok.empty⟩
    · have hk := of_decide_eq_false hb
      have hk0 : k ≠ 0 := by omega
      have hf4 : H3 fl = some (.frz od (.lst (acc.map V.int))) := e3 _ _ upd_same
      refine ⟨hf4, ?_⟩
      refine rest pv0 st _ ?_ upd_same ?_ (fun z => absurd z hk0) (fun _ => rfl) _ (fin _)
      · rw [rm_upd]
        exact Evl.ex_l (fun z o h => rm_mono e3 z o (by rw [rm_upd]; exact h)) hs2
      · rw [rm_upd]
        exact hP2.mono (fun z o h => rm_mono e3 z o (by rw [rm_upd]; exact h))
  · rw [decide_eq_false (show ¬ (pl : Int) < (l.length : Int) by omega)]
    refine (if_neg Bool.false_ne_true).mpr ?_
    have he : l.drop pl = [] := List.drop_eq_nil_of_le (by omega)
    rw [he] at hcs
    have hnil : cs = [] := by
      cases fu with
      | zero => exact (Option.some.inj hcs).symm
      | succ fu => exact (Option.some.inj hcs).symm
    subst hnil
    have : acc = ans := by
      rw [← hacc]
      exact (List.append_nil acc).symm
    subst this
    exact ⟨_, rfl, hq _ _ hf2⟩
end
end Sb
/-! ### Q. the request; the def that is asked -/
namespace Sb
open PySem PySem.Spec PyProof.Rows L2
theorem nat_list : ∀ {ns : List Int}, (∀ x ∈ ns, 0 ≤ x) → ∃ l : List Nat, ns = cI l
  | [], _ => ⟨[], rfl⟩
  | x :: r, h => by
    obtain ⟨l, e⟩ := nat_list fun y hy => h y (List.mem_cons_of_mem _ hy)
    refine ⟨x.toNat :: l, ?_⟩
    rw [e]
    have := h x (List.mem_cons_self ..)
    show x :: cI l = ((x.toNat : Nat) : Int) :: cI l
    rw [Int.toNat_of_nonneg this]
theorem ask_of {ns : List Int} (h0 : ∀ x ∈ ns, 0 ≤ x) (ha : PyKv437.answers_asked ns = true) : ∃ l raw, ns = cI l ∧ PyFlat.calls PyKv437.shape (cI l).length (cI l) = some raw ∧ (toldS none raw).length ≤ 10000000 ∧ PyKv437.answers ns = toldS none raw := by
  obtain ⟨l, rfl⟩ := nat_list h0
  unfold PyKv437.answers_asked at ha
  cases hc : PyFlat.calls PyKv437.shape (cI l).length (cI l) with
  | none => rw [hc] at ha; cases ha
  | some raw =>
    rw [hc] at ha
    dsimp only at ha
    have he := answers_eq hc
    rw [Bool.and_eq_true] at ha
    have hs := ha.2
    unfold PyFlat.short at hs
    rw [he] at hs
    exact ⟨l, raw, rfl, hc, of_decide_eq_true hs, he⟩
theorem natV_cI (l : List Nat) : natV l = (cI l).map V.int := by
  rw [List.map_map]
  rfl
section
variable {P : Program} {w : World} {K : PySem.W.Frag} {mg : Str → Option Value} {fa : Addr}
theorem the_end (T : Txt K mg) (hmg : mg "answers" = some (.ref fa)) : ∃ fd : FuncData, (∀ (s : Shared) (us : List Value), us.length = (["calls"] : List Str).length → BindsTo s fd ⟨us, []⟩ ((["calls"] : List Str).zip us)) ∧
    ∀ base : Heap, K.In base → base.Ns mainGlobals mg → FnOk P w K mg base CX0 9 fa fd ["calls"] (spAns K) := by
  have e := hmg.symm.trans T.d_answers.g
  cases e
  obtain ⟨fd, F⟩ := T.d_answers.f
  refine ⟨fd, ?_, fun base _ _ => f_answers T F⟩
  obtain ⟨oc, od, kV, doc, pm, an, cdv, ct, osl, rfl, lk, hcd⟩ := F.ex
  exact fun s us hu => match us, hu with | [_], _ => .of_eq rfl
end
end Sb
open PySem PySem.W PyProof.Rows L2
set_option maxRecDepth 100000 in
set_option maxHeartbeats 8000000 in
theorem PySem.Challenge.cw_standblocks_s01_answers_holds : PySem.Challenge.rw_standblocks_s01_answers.Holds := by
  w_on; k_headS; (case hw => exact ⟨[.list [.int 0]], by decide +kernel, by decide +kernel⟩)
  k_fillS
  refine L2.walk_specK (r := PySem.Challenge.rw_standblocks_s01_answers) (k := 9) (CX := L2.CX0) (ps := ["calls"]) (sp := Sb.spAns) (by decide +kernel) rfl rfl ⟨rfl, by decide, by decide⟩ (fun w h Y => PySem.W.kIn_of Y) ?F ?S (fun _ _ _ _ z => z)
  case F =>
    intro w mg fa h Y KX G hmg
    have hmg2 : mg "answers" = some (.ref fa) := hmg
    clear hmg
    have d_pair_of : Sb.Df (PySem.Challenge.cw_standblocks_s01_answers_holds.heap_1 w.params) mg "pair_of" Sb.s_f_pair_of := by (refine' Sb.df_mk KX G ?a ?l ?c ?k; (case a => k_is); (case l => k_is); (case c => k_is); (case k => k_is))
    have d_swapped : Sb.Df (PySem.Challenge.cw_standblocks_s01_answers_holds.heap_1 w.params) mg "swapped" Sb.s_f_swapped := by (refine' Sb.df_mk KX G ?a ?l ?c ?k; (case a => k_is); (case l => k_is); (case c => k_is); (case k => k_is))
    have d_with_item : Sb.Df (PySem.Challenge.cw_standblocks_s01_answers_holds.heap_1 w.params) mg "with_item" Sb.s_f_with_item := by (refine' Sb.df_mk KX G ?a ?l ?c ?k; (case a => k_is); (case l => k_is); (case c => k_is); (case k => k_is))
    have d_is_allocation : Sb.Df (PySem.Challenge.cw_standblocks_s01_answers_holds.heap_1 w.params) mg "is_allocation" Sb.s_f_is_allocation := by (refine' Sb.df_mk KX G ?a ?l ?c ?k; (case a => k_is); (case l => k_is); (case c => k_is); (case k => k_is))
    have d_respects : Sb.Df (PySem.Challenge.cw_standblocks_s01_answers_holds.heap_1 w.params) mg "respects" Sb.s_f_respects := by (refine' Sb.df_mk KX G ?a ?l ?c ?k; (case a => k_is); (case l => k_is); (case c => k_is); (case k => k_is))
    have d_are_rivals : Sb.Df (PySem.Challenge.cw_standblocks_s01_answers_holds.heap_1 w.params) mg "are_rivals" Sb.s_f_are_rivals := by (refine' Sb.df_mk KX G ?a ?l ?c ?k; (case a => k_is); (case l => k_is); (case c => k_is); (case k => k_is))
    have d_is_separated : Sb.Df (PySem.Challenge.cw_standblocks_s01_answers_holds.heap_1 w.params) mg "is_separated" Sb.s_f_is_separated := by (refine' Sb.df_mk KX G ?a ?l ?c ?k; (case a => k_is); (case l => k_is); (case c => k_is); (case k => k_is))
    have d_is_valid : Sb.Df (PySem.Challenge.cw_standblocks_s01_answers_holds.heap_1 w.params) mg "is_valid" Sb.s_f_is_valid := by (refine' Sb.df_mk KX G ?a ?l ?c ?k; (case a => k_is); (case l => k_is); (case c => k_is); (case k => k_is))
    have d_seats_with : Sb.Df (PySem.Challenge.cw_standblocks_s01_answers_holds.heap_1 w.params) mg "seats_with" Sb.s_f_seats_with := by (refine' Sb.df_mk KX G ?a ?l ?c ?k; (case a => k_is); (case l => k_is); (case c => k_is); (case k => k_is))
    have d_sold : Sb.Df (PySem.Challenge.cw_standblocks_s01_answers_holds.heap_1 w.params) mg "sold" Sb.s_f_sold := by (refine' Sb.df_mk KX G ?a ?l ?c ?k; (case a => k_is); (case l => k_is); (case c => k_is); (case k => k_is))
    have d_combined : Sb.Df (PySem.Challenge.cw_standblocks_s01_answers_holds.heap_1 w.params) mg "combined" Sb.s_f_combined := by (refine' Sb.df_mk KX G ?a ?l ?c ?k; (case a => k_is); (case l => k_is); (case c => k_is); (case k => k_is))
    have d_join : Sb.Df (PySem.Challenge.cw_standblocks_s01_answers_holds.heap_1 w.params) mg "join" Sb.s_f_join := by (refine' Sb.df_mk KX G ?a ?l ?c ?k; (case a => k_is); (case l => k_is); (case c => k_is); (case k => k_is))
    have d_meet : Sb.Df (PySem.Challenge.cw_standblocks_s01_answers_holds.heap_1 w.params) mg "meet" Sb.s_f_meet := by (refine' Sb.df_mk KX G ?a ?l ?c ?k; (case a => k_is); (case l => k_is); (case c => k_is); (case k => k_is))
    have d_with_one_more : Sb.Df (PySem.Challenge.cw_standblocks_s01_answers_holds.heap_1 w.params) mg "with_one_more" Sb.s_f_with_one_more := by (refine' Sb.df_mk KX G ?a ?l ?c ?k; (case a => k_is); (case l => k_is); (case c => k_is); (case k => k_is))
    have d_valid_allocations : Sb.Df (PySem.Challenge.cw_standblocks_s01_answers_holds.heap_1 w.params) mg "valid_allocations" Sb.s_f_valid_allocations := by (refine' Sb.df_mk KX G ?a ?l ?c ?k; (case a => k_is); (case l => k_is); (case c => k_is); (case k => k_is))
    have d_best_allocation : Sb.Df (PySem.Challenge.cw_standblocks_s01_answers_holds.heap_1 w.params) mg "best_allocation" Sb.s_f_best_allocation := by (refine' Sb.df_mk KX G ?a ?l ?c ?k; (case a => k_is); (case l => k_is); (case c => k_is); (case k => k_is))
    have d_most_away : Sb.Df (PySem.Challenge.cw_standblocks_s01_answers_holds.heap_1 w.params) mg "most_away" Sb.s_f_most_away := by (refine' Sb.df_mk KX G ?a ?l ?c ?k; (case a => k_is); (case l => k_is); (case c => k_is); (case k => k_is))
    have d_add_block : Sb.Df (PySem.Challenge.cw_standblocks_s01_answers_holds.heap_1 w.params) mg "add_block" Sb.s_f_add_block := by (refine' Sb.df_mk KX G ?a ?l ?c ?k; (case a => k_is); (case l => k_is); (case c => k_is); (case k => k_is))
    have d_remove_last_block : Sb.Df (PySem.Challenge.cw_standblocks_s01_answers_holds.heap_1 w.params) mg "remove_last_block" Sb.s_f_remove_last_block := by (refine' Sb.df_mk KX G ?a ?l ?c ?k; (case a => k_is); (case l => k_is); (case c => k_is); (case k => k_is))
    have d_set_seats : Sb.Df (PySem.Challenge.cw_standblocks_s01_answers_holds.heap_1 w.params) mg "set_seats" Sb.s_f_set_seats := by (refine' Sb.df_mk KX G ?a ?l ?c ?k; (case a => k_is); (case l => k_is); (case c => k_is); (case k => k_is))
    have d_assign : Sb.Df (PySem.Challenge.cw_standblocks_s01_answers_holds.heap_1 w.params) mg "assign" Sb.s_f_assign := by (refine' Sb.df_mk KX G ?a ?l ?c ?k; (case a => k_is); (case l => k_is); (case c => k_is); (case k => k_is))
    have d_connect : Sb.Df (PySem.Challenge.cw_standblocks_s01_answers_holds.heap_1 w.params) mg "connect" Sb.s_f_connect := by (refine' Sb.df_mk KX G ?a ?l ?c ?k; (case a => k_is); (case l => k_is); (case c => k_is); (case k => k_is))
    have d_disconnect : Sb.Df (PySem.Challenge.cw_standblocks_s01_answers_holds.heap_1 w.params) mg "disconnect" Sb.s_f_disconnect := by (refine' Sb.df_mk KX G ?a ?l ?c ?k; (case a => k_is); (case l => k_is); (case c => k_is); (case k => k_is))
    have d_swap_teams : Sb.Df (PySem.Challenge.cw_standblocks_s01_answers_holds.heap_1 w.params) mg "swap_teams" Sb.s_f_swap_teams := by (refine' Sb.df_mk KX G ?a ?l ?c ?k; (case a => k_is); (case l => k_is); (case c => k_is); (case k => k_is))
    have d_fixed : Sb.Df (PySem.Challenge.cw_standblocks_s01_answers_holds.heap_1 w.params) mg "fixed" Sb.s_f_fixed := by (refine' Sb.df_mk KX G ?a ?l ?c ?k; (case a => k_is); (case l => k_is); (case c => k_is); (case k => k_is))
    have d_fix_best : Sb.Df (PySem.Challenge.cw_standblocks_s01_answers_holds.heap_1 w.params) mg "fix_best" Sb.s_f_fix_best := by (refine' Sb.df_mk KX G ?a ?l ?c ?k; (case a => k_is); (case l => k_is); (case c => k_is); (case k => k_is))
    have d_edit_answer : Sb.Df (PySem.Challenge.cw_standblocks_s01_answers_holds.heap_1 w.params) mg "edit_answer" Sb.s_f_edit_answer := by (refine' Sb.df_mk KX G ?a ?l ?c ?k; (case a => k_is); (case l => k_is); (case c => k_is); (case k => k_is))
    have d_seats_or_refusal : Sb.Df (PySem.Challenge.cw_standblocks_s01_answers_holds.heap_1 w.params) mg "seats_or_refusal" Sb.s_f_seats_or_refusal := by (refine' Sb.df_mk KX G ?a ?l ?c ?k; (case a => k_is); (case l => k_is); (case c => k_is); (case k => k_is))
    have d_list_blocks : Sb.Df (PySem.Challenge.cw_standblocks_s01_answers_holds.heap_1 w.params) mg "list_blocks" Sb.s_f_list_blocks := by (refine' Sb.df_mk KX G ?a ?l ?c ?k; (case a => k_is); (case l => k_is); (case c => k_is); (case k => k_is))
    have d_neighbors : Sb.Df (PySem.Challenge.cw_standblocks_s01_answers_holds.heap_1 w.params) mg "neighbors" Sb.s_f_neighbors := by (refine' Sb.df_mk KX G ?a ?l ?c ?k; (case a => k_is); (case l => k_is); (case c => k_is); (case k => k_is))
    have d_best_with : Sb.Df (PySem.Challenge.cw_standblocks_s01_answers_holds.heap_1 w.params) mg "best_with" Sb.s_f_best_with := by (refine' Sb.df_mk KX G ?a ?l ?c ?k; (case a => k_is); (case l => k_is); (case c => k_is); (case k => k_is))
    have d_tell_best_allocation : Sb.Df (PySem.Challenge.cw_standblocks_s01_answers_holds.heap_1 w.params) mg "tell_best_allocation" Sb.s_f_tell_best_allocation := by (refine' Sb.df_mk KX G ?a ?l ?c ?k; (case a => k_is); (case l => k_is); (case c => k_is); (case k => k_is))
    have d_best_with_away : Sb.Df (PySem.Challenge.cw_standblocks_s01_answers_holds.heap_1 w.params) mg "best_with_away" Sb.s_f_best_with_away := by (refine' Sb.df_mk KX G ?a ?l ?c ?k; (case a => k_is); (case l => k_is); (case c => k_is); (case k => k_is))
    have d_empty_seats : Sb.Df (PySem.Challenge.cw_standblocks_s01_answers_holds.heap_1 w.params) mg "empty_seats" Sb.s_f_empty_seats := by (refine' Sb.df_mk KX G ?a ?l ?c ?k; (case a => k_is); (case l => k_is); (case c => k_is); (case k => k_is))
    have d_max_away : Sb.Df (PySem.Challenge.cw_standblocks_s01_answers_holds.heap_1 w.params) mg "max_away" Sb.s_f_max_away := by (refine' Sb.df_mk KX G ?a ?l ?c ?k; (case a => k_is); (case l => k_is); (case c => k_is); (case k => k_is))
    have d_tell_is_valid : Sb.Df (PySem.Challenge.cw_standblocks_s01_answers_holds.heap_1 w.params) mg "tell_is_valid" Sb.s_f_tell_is_valid := by (refine' Sb.df_mk KX G ?a ?l ?c ?k; (case a => k_is); (case l => k_is); (case c => k_is); (case k => k_is))
    have d_sold_seats : Sb.Df (PySem.Challenge.cw_standblocks_s01_answers_holds.heap_1 w.params) mg "sold_seats" Sb.s_f_sold_seats := by (refine' Sb.df_mk KX G ?a ?l ?c ?k; (case a => k_is); (case l => k_is); (case c => k_is); (case k => k_is))
    have d_are_allocations : Sb.Df (PySem.Challenge.cw_standblocks_s01_answers_holds.heap_1 w.params) mg "are_allocations" Sb.s_f_are_allocations := by (refine' Sb.df_mk KX G ?a ?l ?c ?k; (case a => k_is); (case l => k_is); (case c => k_is); (case k => k_is))
    have d_tell_join : Sb.Df (PySem.Challenge.cw_standblocks_s01_answers_holds.heap_1 w.params) mg "tell_join" Sb.s_f_tell_join := by (refine' Sb.df_mk KX G ?a ?l ?c ?k; (case a => k_is); (case l => k_is); (case c => k_is); (case k => k_is))
    have d_tell_meet : Sb.Df (PySem.Challenge.cw_standblocks_s01_answers_holds.heap_1 w.params) mg "tell_meet" Sb.s_f_tell_meet := by (refine' Sb.df_mk KX G ?a ?l ?c ?k; (case a => k_is); (case l => k_is); (case c => k_is); (case k => k_is))
    have d_sold_with_assignment : Sb.Df (PySem.Challenge.cw_standblocks_s01_answers_holds.heap_1 w.params) mg "sold_with_assignment" Sb.s_f_sold_with_assignment := by (refine' Sb.df_mk KX G ?a ?l ?c ?k; (case a => k_is); (case l => k_is); (case c => k_is); (case k => k_is))
    have d_sold_if_assigned : Sb.Df (PySem.Challenge.cw_standblocks_s01_answers_holds.heap_1 w.params) mg "sold_if_assigned" Sb.s_f_sold_if_assigned := by (refine' Sb.df_mk KX G ?a ?l ?c ?k; (case a => k_is); (case l => k_is); (case c => k_is); (case k => k_is))
    have d_sold_if_closed : Sb.Df (PySem.Challenge.cw_standblocks_s01_answers_holds.heap_1 w.params) mg "sold_if_closed" Sb.s_f_sold_if_closed := by (refine' Sb.df_mk KX G ?a ?l ?c ?k; (case a => k_is); (case l => k_is); (case c => k_is); (case k => k_is))
    have d_count_valid : Sb.Df (PySem.Challenge.cw_standblocks_s01_answers_holds.heap_1 w.params) mg "count_valid" Sb.s_f_count_valid := by (refine' Sb.df_mk KX G ?a ?l ?c ?k; (case a => k_is); (case l => k_is); (case c => k_is); (case k => k_is))
    have d_get_state : Sb.Df (PySem.Challenge.cw_standblocks_s01_answers_holds.heap_1 w.params) mg "get_state" Sb.s_f_get_state := by (refine' Sb.df_mk KX G ?a ?l ?c ?k; (case a => k_is); (case l => k_is); (case c => k_is); (case k => k_is))
    have d_query_answer : Sb.Df (PySem.Challenge.cw_standblocks_s01_answers_holds.heap_1 w.params) mg "query_answer" Sb.s_f_query_answer := by (refine' Sb.df_mk KX G ?a ?l ?c ?k; (case a => k_is); (case l => k_is); (case c => k_is); (case k => k_is))
    have d_place_of_lists : Sb.Df (PySem.Challenge.cw_standblocks_s01_answers_holds.heap_1 w.params) mg "place_of_lists" Sb.s_f_place_of_lists := by (refine' Sb.df_mk KX G ?a ?l ?c ?k; (case a => k_is); (case l => k_is); (case c => k_is); (case k => k_is))
    have d_numbers_at : Sb.Df (PySem.Challenge.cw_standblocks_s01_answers_holds.heap_1 w.params) mg "numbers_at" Sb.s_f_numbers_at := by (refine' Sb.df_mk KX G ?a ?l ?c ?k; (case a => k_is); (case l => k_is); (case c => k_is); (case k => k_is))
    have d_lists_at : Sb.Df (PySem.Challenge.cw_standblocks_s01_answers_holds.heap_1 w.params) mg "lists_at" Sb.s_f_lists_at := by (refine' Sb.df_mk KX G ?a ?l ?c ?k; (case a => k_is); (case l => k_is); (case c => k_is); (case k => k_is))
    have d_place_after : Sb.Df (PySem.Challenge.cw_standblocks_s01_answers_holds.heap_1 w.params) mg "place_after" Sb.s_f_place_after := by (refine' Sb.df_mk KX G ?a ?l ?c ?k; (case a => k_is); (case l => k_is); (case c => k_is); (case k => k_is))
    have d_answer_at : Sb.Df (PySem.Challenge.cw_standblocks_s01_answers_holds.heap_1 w.params) mg "answer_at" Sb.s_f_answer_at := by (refine' Sb.df_mk KX G ?a ?l ?c ?k; (case a => k_is); (case l => k_is); (case c => k_is); (case k => k_is))
    have d_answers : Sb.Df (PySem.Challenge.cw_standblocks_s01_answers_holds.heap_1 w.params) mg "answers" Sb.s_f_answers := by (refine' Sb.df_mk KX G ?a ?l ?c ?k; (case a => k_is); (case l => k_is); (case c => k_is); (case k => k_is))
    have gC : He.ga (PySem.Challenge.cw_standblocks_s01_answers_holds.heap_1 w.params) "Plan" = _ := Sb.ga_eq (K := PySem.Challenge.cw_standblocks_s01_answers_holds.heap_1 w.params) (by k_is)
    have d_m_init : Sb.Dm (PySem.Challenge.cw_standblocks_s01_answers_holds.heap_1 w.params) "__init__" "Plan.__init__" Sb.s_m_init := by (refine' Sb.dm_mk gC ?a ?i ?l ?c ?k; (case a => k_is); (case i => k_is); (case l => k_is); (case c => k_is); (case k => k_is))
    have d_m_block_count : Sb.Dm (PySem.Challenge.cw_standblocks_s01_answers_holds.heap_1 w.params) "block_count" "Plan.block_count" Sb.s_m_block_count := by (refine' Sb.dm_mk gC ?a ?i ?l ?c ?k; (case a => k_is); (case i => k_is); (case l => k_is); (case c => k_is); (case k => k_is))
    have d_m_has_block : Sb.Dm (PySem.Challenge.cw_standblocks_s01_answers_holds.heap_1 w.params) "has_block" "Plan.has_block" Sb.s_m_has_block := by (refine' Sb.dm_mk gC ?a ?i ?l ?c ?k; (case a => k_is); (case i => k_is); (case l => k_is); (case c => k_is); (case k => k_is))
    have d_m_are_adjacent : Sb.Dm (PySem.Challenge.cw_standblocks_s01_answers_holds.heap_1 w.params) "are_adjacent" "Plan.are_adjacent" Sb.s_m_are_adjacent := by (refine' Sb.dm_mk gC ?a ?i ?l ?c ?k; (case a => k_is); (case i => k_is); (case l => k_is); (case c => k_is); (case k => k_is))
    have d_m_add_block : Sb.Dm (PySem.Challenge.cw_standblocks_s01_answers_holds.heap_1 w.params) "add_block" "Plan.add_block" Sb.s_m_add_block := by (refine' Sb.dm_mk gC ?a ?i ?l ?c ?k; (case a => k_is); (case i => k_is); (case l => k_is); (case c => k_is); (case k => k_is))
    have d_m_remove_last_block : Sb.Dm (PySem.Challenge.cw_standblocks_s01_answers_holds.heap_1 w.params) "remove_last_block" "Plan.remove_last_block" Sb.s_m_remove_last_block := by (refine' Sb.dm_mk gC ?a ?i ?l ?c ?k; (case a => k_is); (case i => k_is); (case l => k_is); (case c => k_is); (case k => k_is))
    have d_m_use_seats : Sb.Dm (PySem.Challenge.cw_standblocks_s01_answers_holds.heap_1 w.params) "use_seats" "Plan.use_seats" Sb.s_m_use_seats := by (refine' Sb.dm_mk gC ?a ?i ?l ?c ?k; (case a => k_is); (case i => k_is); (case l => k_is); (case c => k_is); (case k => k_is))
    have d_m_use_assignments : Sb.Dm (PySem.Challenge.cw_standblocks_s01_answers_holds.heap_1 w.params) "use_assignments" "Plan.use_assignments" Sb.s_m_use_assignments := by (refine' Sb.dm_mk gC ?a ?i ?l ?c ?k; (case a => k_is); (case i => k_is); (case l => k_is); (case c => k_is); (case k => k_is))
    have d_m_connect : Sb.Dm (PySem.Challenge.cw_standblocks_s01_answers_holds.heap_1 w.params) "connect" "Plan.connect" Sb.s_m_connect := by (refine' Sb.dm_mk gC ?a ?i ?l ?c ?k; (case a => k_is); (case i => k_is); (case l => k_is); (case c => k_is); (case k => k_is))
    have d_m_disconnect : Sb.Dm (PySem.Challenge.cw_standblocks_s01_answers_holds.heap_1 w.params) "disconnect" "Plan.disconnect" Sb.s_m_disconnect := by (refine' Sb.dm_mk gC ?a ?i ?l ?c ?k; (case a => k_is); (case i => k_is); (case l => k_is); (case c => k_is); (case k => k_is))
    have d_m_swap_teams : Sb.Dm (PySem.Challenge.cw_standblocks_s01_answers_holds.heap_1 w.params) "swap_teams" "Plan.swap_teams" Sb.s_m_swap_teams := by (refine' Sb.dm_mk gC ?a ?i ?l ?c ?k; (case a => k_is); (case i => k_is); (case l => k_is); (case c => k_is); (case k => k_is))
    have cls := Sb.cls_mk gC (by k_is) (by k_is) (by k_is) (by k_is)
    have mkr : Mk (PySem.Challenge.cw_standblocks_s01_answers_holds.heap_1 w.params) (He.ga (PySem.Challenge.cw_standblocks_s01_answers_holds.heap_1 w.params) "Plan") (He.ma (PySem.Challenge.cw_standblocks_s01_answers_holds.heap_1 w.params) (He.ga (PySem.Challenge.cw_standblocks_s01_answers_holds.heap_1 w.params) "Plan") "__init__") := by (refine' Sb.mkr_mk gC ?m ?a ?i ?k; (case m => k_is); (case a => k_is); (case i => k_is); (case k => k_is))
    have gP := Sb.r_mk (x := "Plan") KX G (by k_is)
    have n_seats := Sb.n_mk (m := "seats") gC (by k_is)
    have n_assignments := Sb.n_mk (m := "assignments") gC (by k_is)
    have n_pairs := Sb.n_mk (m := "pairs") gC (by k_is)
    have i_CREATE : ∃ t, mg "CREATE" = some (.int (0) t) := by (refine' Sb.i_mk KX G ?a; (case a => k_is))
    have i_ADD_BLOCK : ∃ t, mg "ADD_BLOCK" = some (.int (1) t) := by (refine' Sb.i_mk KX G ?a; (case a => k_is))
    have i_REMOVE_LAST_BLOCK : ∃ t, mg "REMOVE_LAST_BLOCK" = some (.int (2) t) := by (refine' Sb.i_mk KX G ?a; (case a => k_is))
    have i_SET_SEATS : ∃ t, mg "SET_SEATS" = some (.int (3) t) := by (refine' Sb.i_mk KX G ?a; (case a => k_is))
    have i_ASSIGN : ∃ t, mg "ASSIGN" = some (.int (4) t) := by (refine' Sb.i_mk KX G ?a; (case a => k_is))
    have i_CONNECT : ∃ t, mg "CONNECT" = some (.int (5) t) := by (refine' Sb.i_mk KX G ?a; (case a => k_is))
    have i_DISCONNECT : ∃ t, mg "DISCONNECT" = some (.int (6) t) := by (refine' Sb.i_mk KX G ?a; (case a => k_is))
    have i_SWAP_TEAMS : ∃ t, mg "SWAP_TEAMS" = some (.int (7) t) := by (refine' Sb.i_mk KX G ?a; (case a => k_is))
    have i_LIST_BLOCKS : ∃ t, mg "LIST_BLOCKS" = some (.int (8) t) := by (refine' Sb.i_mk KX G ?a; (case a => k_is))
    have i_NEIGHBORS : ∃ t, mg "NEIGHBORS" = some (.int (9) t) := by (refine' Sb.i_mk KX G ?a; (case a => k_is))
    have i_BEST_ALLOCATION : ∃ t, mg "BEST_ALLOCATION" = some (.int (10) t) := by (refine' Sb.i_mk KX G ?a; (case a => k_is))
    have i_EMPTY_SEATS : ∃ t, mg "EMPTY_SEATS" = some (.int (11) t) := by (refine' Sb.i_mk KX G ?a; (case a => k_is))
    have i_BEST_WITH_AWAY : ∃ t, mg "BEST_WITH_AWAY" = some (.int (12) t) := by (refine' Sb.i_mk KX G ?a; (case a => k_is))
    have i_MAX_AWAY : ∃ t, mg "MAX_AWAY" = some (.int (13) t) := by (refine' Sb.i_mk KX G ?a; (case a => k_is))
    have i_IS_VALID : ∃ t, mg "IS_VALID" = some (.int (14) t) := by (refine' Sb.i_mk KX G ?a; (case a => k_is))
    have i_SOLD_SEATS : ∃ t, mg "SOLD_SEATS" = some (.int (15) t) := by (refine' Sb.i_mk KX G ?a; (case a => k_is))
    have i_JOIN : ∃ t, mg "JOIN" = some (.int (16) t) := by (refine' Sb.i_mk KX G ?a; (case a => k_is))
    have i_MEET : ∃ t, mg "MEET" = some (.int (17) t) := by (refine' Sb.i_mk KX G ?a; (case a => k_is))
    have i_SOLD_IF_ASSIGNED : ∃ t, mg "SOLD_IF_ASSIGNED" = some (.int (18) t) := by (refine' Sb.i_mk KX G ?a; (case a => k_is))
    have i_SOLD_IF_CLOSED : ∃ t, mg "SOLD_IF_CLOSED" = some (.int (19) t) := by (refine' Sb.i_mk KX G ?a; (case a => k_is))
    have i_COUNT_VALID : ∃ t, mg "COUNT_VALID" = some (.int (20) t) := by (refine' Sb.i_mk KX G ?a; (case a => k_is))
    have i_FIX_BEST : ∃ t, mg "FIX_BEST" = some (.int (21) t) := by (refine' Sb.i_mk KX G ?a; (case a => k_is))
    have i_GET_STATE : ∃ t, mg "GET_STATE" = some (.int (22) t) := by (refine' Sb.i_mk KX G ?a; (case a => k_is))
    have i_MOST_SEATS : ∃ t, mg "MOST_SEATS" = some (.int (99) t) := by (refine' Sb.i_mk KX G ?a; (case a => k_is))
    have i_MOST_BLOCKS : ∃ t, mg "MOST_BLOCKS" = some (.int (6) t) := by (refine' Sb.i_mk KX G ?a; (case a => k_is))
    have i_EMPTY : ∃ t, mg "EMPTY" = some (.int (0) t) := by (refine' Sb.i_mk KX G ?a; (case a => k_is))
    have i_HOME : ∃ t, mg "HOME" = some (.int (1) t) := by (refine' Sb.i_mk KX G ?a; (case a => k_is))
    have i_AWAY : ∃ t, mg "AWAY" = some (.int (2) t) := by (refine' Sb.i_mk KX G ?a; (case a => k_is))
    have i_ANY_USE : ∃ t, mg "ANY_USE" = some (.int (0) t) := by (refine' Sb.i_mk KX G ?a; (case a => k_is))
    have i_HOME_ONLY : ∃ t, mg "HOME_ONLY" = some (.int (1) t) := by (refine' Sb.i_mk KX G ?a; (case a => k_is))
    have i_AWAY_ONLY : ∃ t, mg "AWAY_ONLY" = some (.int (2) t) := by (refine' Sb.i_mk KX G ?a; (case a => k_is))
    have i_CLOSED : ∃ t, mg "CLOSED" = some (.int (3) t) := by (refine' Sb.i_mk KX G ?a; (case a => k_is))
    have i_GREATEST_ASSIGNMENT : ∃ t, mg "GREATEST_ASSIGNMENT" = some (.int (3) t) := by (refine' Sb.i_mk KX G ?a; (case a => k_is))
    have i_NO_PLANNER : ∃ t, mg "NO_PLANNER" = some (.int (-11) t) := by (refine' Sb.i_mk KX G ?a; (case a => k_is))
    have i_NO_SUCH_BLOCK : ∃ t, mg "NO_SUCH_BLOCK" = some (.int (-2) t) := by (refine' Sb.i_mk KX G ?a; (case a => k_is))
    have i_NOTHING_THERE : ∃ t, mg "NOTHING_THERE" = some (.int (-6) t) := by (refine' Sb.i_mk KX G ?a; (case a => k_is))
    have i_ALREADY_ADJACENT : ∃ t, mg "ALREADY_ADJACENT" = some (.int (-17) t) := by (refine' Sb.i_mk KX G ?a; (case a => k_is))
    have i_BAD_ARGUMENT : ∃ t, mg "BAD_ARGUMENT" = some (.int (-22) t) := by (refine' Sb.i_mk KX G ?a; (case a => k_is))
    have i_ALL_FULL : ∃ t, mg "ALL_FULL" = some (.int (-28) t) := by (refine' Sb.i_mk KX G ?a; (case a => k_is))
    have i_NO_ALLOCATION : ∃ t, mg "NO_ALLOCATION" = some (.int (-33) t) := by (refine' Sb.i_mk KX G ?a; (case a => k_is))
    have i_NONE_FOUND : ∃ t, mg "NONE_FOUND" = some (.int (-1) t) := by (refine' Sb.i_mk KX G ?a; (case a => k_is))
    have r_USES := Sb.r_mk (x := "USES") KX G (by k_is)
    have r_EDITS := Sb.r_mk (x := "EDITS") KX G (by k_is)
    have r_QUERIES := Sb.r_mk (x := "QUERIES") KX G (by k_is)
    have r_NUMBERS := Sb.r_mk (x := "NUMBERS") KX G (by k_is)
    have r_LISTS := Sb.r_mk (x := "LISTS") KX G (by k_is)
    have v_USES : Sb.dqB (PySem.Challenge.cw_standblocks_s01_answers_holds.heap_1 w.params) 3 (.ref (He.ga (PySem.Challenge.cw_standblocks_s01_answers_holds.heap_1 w.params) "USES")) Sb.usesD = true := Sb.v_mk (K := PySem.Challenge.cw_standblocks_s01_answers_holds.heap_1 w.params) (by k_is) (by kernel_rfl)
    have v_NUMBERS : Sb.dqB (PySem.Challenge.cw_standblocks_s01_answers_holds.heap_1 w.params) 3 (.ref (He.ga (PySem.Challenge.cw_standblocks_s01_answers_holds.heap_1 w.params) "NUMBERS")) Sb.numbersD = true := Sb.v_mk (K := PySem.Challenge.cw_standblocks_s01_answers_holds.heap_1 w.params) (by k_is) (by kernel_rfl)
    have v_LISTS : Sb.dqB (PySem.Challenge.cw_standblocks_s01_answers_holds.heap_1 w.params) 3 (.ref (He.ga (PySem.Challenge.cw_standblocks_s01_answers_holds.heap_1 w.params) "LISTS")) Sb.listsD = true := Sb.v_mk (K := PySem.Challenge.cw_standblocks_s01_answers_holds.heap_1 w.params) (by k_is) (by kernel_rfl)
    have d_EDITS : Sb.KDI (PySem.Challenge.cw_standblocks_s01_answers_holds.heap_1 w.params) (He.ga (PySem.Challenge.cw_standblocks_s01_answers_holds.heap_1 w.params) "EDITS") [(1, He.ga (PySem.Challenge.cw_standblocks_s01_answers_holds.heap_1 w.params) "add_block"), (2, He.ga (PySem.Challenge.cw_standblocks_s01_answers_holds.heap_1 w.params) "remove_last_block"), (3, He.ga (PySem.Challenge.cw_standblocks_s01_answers_holds.heap_1 w.params) "set_seats"), (4, He.ga (PySem.Challenge.cw_standblocks_s01_answers_holds.heap_1 w.params) "assign"), (5, He.ga (PySem.Challenge.cw_standblocks_s01_answers_holds.heap_1 w.params) "connect"), (6, He.ga (PySem.Challenge.cw_standblocks_s01_answers_holds.heap_1 w.params) "disconnect"), (7, He.ga (PySem.Challenge.cw_standblocks_s01_answers_holds.heap_1 w.params) "swap_teams"), (21, He.ga (PySem.Challenge.cw_standblocks_s01_answers_holds.heap_1 w.params) "fix_best")] := Sb.kdi_mk (by k_is) (by kernel_rfl)
    have d_QUERIES : Sb.KDI (PySem.Challenge.cw_standblocks_s01_answers_holds.heap_1 w.params) (He.ga (PySem.Challenge.cw_standblocks_s01_answers_holds.heap_1 w.params) "QUERIES") [(8, He.ga (PySem.Challenge.cw_standblocks_s01_answers_holds.heap_1 w.params) "list_blocks"), (9, He.ga (PySem.Challenge.cw_standblocks_s01_answers_holds.heap_1 w.params) "neighbors"), (10, He.ga (PySem.Challenge.cw_standblocks_s01_answers_holds.heap_1 w.params) "tell_best_allocation"), (11, He.ga (PySem.Challenge.cw_standblocks_s01_answers_holds.heap_1 w.params) "empty_seats"), (12, He.ga (PySem.Challenge.cw_standblocks_s01_answers_holds.heap_1 w.params) "best_with_away"), (13, He.ga (PySem.Challenge.cw_standblocks_s01_answers_holds.heap_1 w.params) "max_away"), (14, He.ga (PySem.Challenge.cw_standblocks_s01_answers_holds.heap_1 w.params) "tell_is_valid"), (15, He.ga (PySem.Challenge.cw_standblocks_s01_answers_holds.heap_1 w.params) "sold_seats"), (16, He.ga (PySem.Challenge.cw_standblocks_s01_answers_holds.heap_1 w.params) "tell_join"), (17, He.ga (PySem.Challenge.cw_standblocks_s01_answers_holds.heap_1 w.params) "tell_meet"), (18, He.ga (PySem.Challenge.cw_standblocks_s01_answers_holds.heap_1 w.params) "sold_if_assigned"), (19, He.ga (PySem.Challenge.cw_standblocks_s01_answers_holds.heap_1 w.params) "sold_if_closed"), (20, He.ga (PySem.Challenge.cw_standblocks_s01_answers_holds.heap_1 w.params) "count_valid"), (22, He.ga (PySem.Challenge.cw_standblocks_s01_answers_holds.heap_1 w.params) "get_state")] := Sb.kdi_mk (by k_is) (by kernel_rfl)
    have b_len := PySem.W.mg_none_of (n := "len") KX G (by k_is)
    have b_min := PySem.W.mg_none_of (n := "min") KX G (by k_is)
    have b_max := PySem.W.mg_none_of (n := "max") KX G (by k_is)
    have b_all := PySem.W.mg_none_of (n := "all") KX G (by k_is)
    have b_any := PySem.W.mg_none_of (n := "any") KX G (by k_is)
    have b_sum := PySem.W.mg_none_of (n := "sum") KX G (by k_is)
    have b_zip := PySem.W.mg_none_of (n := "zip") KX G (by k_is)
    have b_list := PySem.W.mg_none_of (n := "list") KX G (by k_is)
    have b_range := PySem.W.mg_none_of (n := "range") KX G (by k_is)
    have T : Sb.Txt (PySem.Challenge.cw_standblocks_s01_answers_holds.heap_1 w.params) mg := { d_pair_of := d_pair_of, d_swapped := d_swapped, d_with_item := d_with_item, d_is_allocation := d_is_allocation, d_respects := d_respects, d_are_rivals := d_are_rivals, d_is_separated := d_is_separated, d_is_valid := d_is_valid, d_seats_with := d_seats_with, d_sold := d_sold, d_combined := d_combined, d_join := d_join, d_meet := d_meet, d_with_one_more := d_with_one_more, d_valid_allocations := d_valid_allocations, d_best_allocation := d_best_allocation, d_most_away := d_most_away, d_add_block := d_add_block, d_remove_last_block := d_remove_last_block, d_set_seats := d_set_seats, d_assign := d_assign, d_connect := d_connect, d_disconnect := d_disconnect, d_swap_teams := d_swap_teams, d_fixed := d_fixed, d_fix_best := d_fix_best, d_edit_answer := d_edit_answer, d_seats_or_refusal := d_seats_or_refusal, d_list_blocks := d_list_blocks, d_neighbors := d_neighbors, d_best_with := d_best_with, d_tell_best_allocation := d_tell_best_allocation, d_best_with_away := d_best_with_away, d_empty_seats := d_empty_seats, d_max_away := d_max_away, d_tell_is_valid := d_tell_is_valid, d_sold_seats := d_sold_seats, d_are_allocations := d_are_allocations, d_tell_join := d_tell_join, d_tell_meet := d_tell_meet, d_sold_with_assignment := d_sold_with_assignment, d_sold_if_assigned := d_sold_if_assigned, d_sold_if_closed := d_sold_if_closed, d_count_valid := d_count_valid, d_get_state := d_get_state, d_query_answer := d_query_answer, d_place_of_lists := d_place_of_lists, d_numbers_at := d_numbers_at, d_lists_at := d_lists_at, d_place_after := d_place_after, d_answer_at := d_answer_at, d_answers := d_answers, d_m_init := d_m_init, d_m_block_count := d_m_block_count, d_m_has_block := d_m_has_block, d_m_are_adjacent := d_m_are_adjacent, d_m_add_block := d_m_add_block, d_m_remove_last_block := d_m_remove_last_block, d_m_use_seats := d_m_use_seats, d_m_use_assignments := d_m_use_assignments, d_m_connect := d_m_connect, d_m_disconnect := d_m_disconnect, d_m_swap_teams := d_m_swap_teams, cls := cls, mkr := mkr, gP := gP, n_seats := n_seats, n_assignments := n_assignments, n_pairs := n_pairs, i_CREATE := i_CREATE, i_ADD_BLOCK := i_ADD_BLOCK, i_REMOVE_LAST_BLOCK := i_REMOVE_LAST_BLOCK, i_SET_SEATS := i_SET_SEATS, i_ASSIGN := i_ASSIGN, i_CONNECT := i_CONNECT, i_DISCONNECT := i_DISCONNECT, i_SWAP_TEAMS := i_SWAP_TEAMS, i_LIST_BLOCKS := i_LIST_BLOCKS, i_NEIGHBORS := i_NEIGHBORS, i_BEST_ALLOCATION := i_BEST_ALLOCATION, i_EMPTY_SEATS := i_EMPTY_SEATS, i_BEST_WITH_AWAY := i_BEST_WITH_AWAY, i_MAX_AWAY := i_MAX_AWAY, i_IS_VALID := i_IS_VALID, i_SOLD_SEATS := i_SOLD_SEATS, i_JOIN := i_JOIN, i_MEET := i_MEET, i_SOLD_IF_ASSIGNED := i_SOLD_IF_ASSIGNED, i_SOLD_IF_CLOSED := i_SOLD_IF_CLOSED, i_COUNT_VALID := i_COUNT_VALID, i_FIX_BEST := i_FIX_BEST, i_GET_STATE := i_GET_STATE, i_MOST_SEATS := i_MOST_SEATS, i_MOST_BLOCKS := i_MOST_BLOCKS, i_EMPTY := i_EMPTY, i_HOME := i_HOME, i_AWAY := i_AWAY, i_ANY_USE := i_ANY_USE, i_HOME_ONLY := i_HOME_ONLY, i_AWAY_ONLY := i_AWAY_ONLY, i_CLOSED := i_CLOSED, i_GREATEST_ASSIGNMENT := i_GREATEST_ASSIGNMENT, i_NO_PLANNER := i_NO_PLANNER, i_NO_SUCH_BLOCK := i_NO_SUCH_BLOCK, i_NOTHING_THERE := i_NOTHING_THERE, i_ALREADY_ADJACENT := i_ALREADY_ADJACENT, i_BAD_ARGUMENT := i_BAD_ARGUMENT, i_ALL_FULL := i_ALL_FULL, i_NO_ALLOCATION := i_NO_ALLOCATION, i_NONE_FOUND := i_NONE_FOUND, r_USES := r_USES, r_EDITS := r_EDITS, r_QUERIES := r_QUERIES, r_NUMBERS := r_NUMBERS, r_LISTS := r_LISTS, v_USES := v_USES, v_NUMBERS := v_NUMBERS, v_LISTS := v_LISTS, d_EDITS := d_EDITS, d_QUERIES := d_QUERIES, b_len := b_len, b_min := b_min, b_max := b_max, b_all := b_all, b_any := b_any, b_sum := b_sum, b_zip := b_zip, b_list := b_list, b_range := b_range }
    exact Sb.the_end T hmg2
  case S =>
    intro K H xs a hO hwi hask hx
    cases hx with
    | cons h1 h2 =>
      cases h2
      cases h1 with
      | lst hs ha =>
        have e := L2.ints_dw a.1 _ ha
        subst e
        have q : ((Codec.inLen 0 21248 a.1 && a.1.all (Codec.inInt 0 4294967295)) && true) = true := hwi
        rw [Bool.and_eq_true, Bool.and_eq_true] at q
        have hlen : a.1.length ≤ 21248 := (Codec.inNat_iff.mp q.1.1).2
        have h0 : ∀ x ∈ a.1, 0 ≤ x := fun x hx => (Codec.inInt_iff.mp (List.all_eq_true.mp q.1.2 x hx)).1
        obtain ⟨l, raw, el, hc, hsh, hans⟩ := Sb.ask_of h0 hask
        rw [el, ← Sb.natV_cI] at hs
        have hl2 : l.length ≤ 30000 := by
          have := congrArg List.length el
          rw [List.length_map] at this
          omega
        refine ⟨_, l, raw, rfl, hs, hl2, hc, hsh, fun H' p hp => ?_⟩
        have : L2.Dw K H' (.ref p) (.list ((PyKv437.answers a.1).map WData.int)) := by
          rw [hans]
          exact .lst (L2.SqL.of hp) (L2.dw_ints _)
        exact this
#print axioms PySem.Challenge.cw_standblocks_s01_answers_holds

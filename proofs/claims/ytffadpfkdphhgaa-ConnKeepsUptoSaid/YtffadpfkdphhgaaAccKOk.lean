/-
  ConnKeeps: in those rounds nothing is done.
-/
import Derived.Test.YtffadpfkdphhgaaAccK
import Derived.Test.YtffadpfkdphhgaaPlsOk
set_option linter.unusedVariables false
set_option linter.unusedSimpArgs false
namespace Go.Proofs.Ytffadpfkdphhgaa
open Go

theorem add_ev' (x y : Int) (h : -9223372036854775808 ≤ x + y ∧ x + y ≤ 9223372036854775807) : binZ .add .i64 x y = x + y := by
  show IntKind.i64.wrap (x + y) = x + y
  rw [wrap_i64']
  omega
theorem rg0 {ρ : Nat → Int} (h : RgOk ρ [((.ofNat 2), (.ofNat 1000)), ((.ofNat 1), (.ofNat 10000))]) : 2 ≤ ρ 0 ∧ ρ 0 ≤ 1000 := h 0 2 1000 rfl
theorem E1_ev {ρ : Nat → Int} (h : 2 ≤ ρ 0 ∧ ρ 0 ≤ 1000) : E1.ev ρ = 1 * ρ 0 := by
  show binZ .add .i64 (ρ 0) 0 = _
  rw [add_ev' _ _ (by omega)]
  omega
theorem E2_ev {ρ : Nat → Int} (h : 2 ≤ ρ 0 ∧ ρ 0 ≤ 1000) : E2.ev ρ = 2 * ρ 0 := by
  show binZ .add .i64 (E1.ev ρ) (ρ 0) = _
  rw [E1_ev h, add_ev' _ _ (by omega)]
  omega
theorem E3_ev {ρ : Nat → Int} (h : 2 ≤ ρ 0 ∧ ρ 0 ≤ 1000) : E3.ev ρ = 3 * ρ 0 := by
  show binZ .add .i64 (E2.ev ρ) (ρ 0) = _
  rw [E2_ev h, add_ev' _ _ (by omega)]
  omega
theorem E4_ev {ρ : Nat → Int} (h : 2 ≤ ρ 0 ∧ ρ 0 ≤ 1000) : E4.ev ρ = 4 * ρ 0 := by
  show binZ .add .i64 (E3.ev ρ) (ρ 0) = _
  rw [E3_ev h, add_ev' _ _ (by omega)]
  omega
theorem E5_ev {ρ : Nat → Int} (h : 2 ≤ ρ 0 ∧ ρ 0 ≤ 1000) : E5.ev ρ = 5 * ρ 0 := by
  show binZ .add .i64 (E4.ev ρ) (ρ 0) = _
  rw [E4_ev h, add_ev' _ _ (by omega)]
  omega
theorem E6_ev {ρ : Nat → Int} (h : 2 ≤ ρ 0 ∧ ρ 0 ≤ 1000) : E6.ev ρ = 6 * ρ 0 := by
  show binZ .add .i64 (E5.ev ρ) (ρ 0) = _
  rw [E5_ev h, add_ev' _ _ (by omega)]
  omega
theorem E7_ev {ρ : Nat → Int} (h : 2 ≤ ρ 0 ∧ ρ 0 ≤ 1000) : E7.ev ρ = 7 * ρ 0 := by
  show binZ .add .i64 (E6.ev ρ) (ρ 0) = _
  rw [E6_ev h, add_ev' _ _ (by omega)]
  omega
theorem E8_ev {ρ : Nat → Int} (h : 2 ≤ ρ 0 ∧ ρ 0 ≤ 1000) : E8.ev ρ = 8 * ρ 0 := by
  show binZ .add .i64 (E7.ev ρ) (ρ 0) = _
  rw [E7_ev h, add_ev' _ _ (by omega)]
  omega
theorem E9_ev {ρ : Nat → Int} (h : 2 ≤ ρ 0 ∧ ρ 0 ≤ 1000) : E9.ev ρ = 9 * ρ 0 := by
  show binZ .add .i64 (E8.ev ρ) (ρ 0) = _
  rw [E8_ev h, add_ev' _ _ (by omega)]
  omega
theorem EL_ev {ρ : Nat → Int} (h : 2 ≤ ρ 0 ∧ ρ 0 ≤ 1000) : EL.ev ρ = 10 * ρ 0 := by
  show IntKind.i64.wrap (ρ 0 * 10) = _
  rw [wrap_i64']
  omega
theorem rg_upd {ρ : Nat → Int} {v : Int} (h : RgOk ρ [((.ofNat 2), (.ofNat 1000)), ((.ofNat 1), (.ofNat 10000))]) (hv : 1 ≤ v ∧ v ≤ 10000) : RgOk (updL ρ 1 v) [((.ofNat 2), (.ofNat 1000)), ((.ofNat 1), (.ofNat 10000))] := by
  intro i l u e
  match i, e with
  | 0, e => exact h 0 l u e
  | 1, e => cases e; exact hv
  | i + 2, e => cases e
theorem acc0_ok : AccOk acc0 := by
  intro ρ hr
  have h := rg0 hr
  have a1 : acc0.e0.ev ρ = 1 := by
    rfl
  have a2 : acc0.hi.ev ρ = 1 * ρ 0 := by
    exact E1_ev h
  rw [a1, a2]
  refine ⟨by omega, by omega, by omega, fun v h1 h2 => ?_⟩
  have hv : RgOk (updL ρ 1 v) [((.ofNat 2), (.ofNat 1000)), ((.ofNat 1), (.ofNat 10000))] := rg_upd hr ⟨by omega, by omega⟩
  have h' : 2 ≤ updL ρ 1 v 0 ∧ updL ρ 1 v 0 ≤ 1000 := h
  refine ⟨hv, fun x hx => ?_⟩
  have hx : x ∈ ([((.cmp .lss (.var 1) E1), true), ((.cmp .lss EL (.var 1)), false)] : List (SB × Bool)) := hx
  simp only [List.mem_cons, List.not_mem_nil, or_false] at hx
  rcases hx with rfl | rfl
  · show decide (updL ρ 1 v 1 < E1.ev (updL ρ 1 v)) = true
    rw [E1_ev h', show updL ρ 1 v 1 = v from rfl, show updL ρ 1 v 0 = ρ 0 from rfl]
    simp only [decide_eq_true_eq]
    omega
  · show decide (EL.ev (updL ρ 1 v) < updL ρ 1 v 1) = false
    rw [EL_ev h', show updL ρ 1 v 1 = v from rfl, show updL ρ 1 v 0 = ρ 0 from rfl]
    simp only [decide_eq_false_iff_not]
    omega
theorem acc1_ok : AccOk acc1 := by
  intro ρ hr
  have h := rg0 hr
  have a1 : acc1.e0.ev ρ = 1 * ρ 0 + 1 := by
    show binZ .add .i64 (ρ 0) 1 = _
    rw [add_ev' _ _ (by omega)]
    omega
  have a2 : acc1.hi.ev ρ = 2 * ρ 0 := by
    exact E2_ev h
  rw [a1, a2]
  refine ⟨by omega, by omega, by omega, fun v h1 h2 => ?_⟩
  have hv : RgOk (updL ρ 1 v) [((.ofNat 2), (.ofNat 1000)), ((.ofNat 1), (.ofNat 10000))] := rg_upd hr ⟨by omega, by omega⟩
  have h' : 2 ≤ updL ρ 1 v 0 ∧ updL ρ 1 v 0 ≤ 1000 := h
  refine ⟨hv, fun x hx => ?_⟩
  have hx : x ∈ ([((.cmp .lss (.var 1) E2), true), ((.cmp .lss EL (.var 1)), false)] : List (SB × Bool)) := hx
  simp only [List.mem_cons, List.not_mem_nil, or_false] at hx
  rcases hx with rfl | rfl
  · show decide (updL ρ 1 v 1 < E2.ev (updL ρ 1 v)) = true
    rw [E2_ev h', show updL ρ 1 v 1 = v from rfl, show updL ρ 1 v 0 = ρ 0 from rfl]
    simp only [decide_eq_true_eq]
    omega
  · show decide (EL.ev (updL ρ 1 v) < updL ρ 1 v 1) = false
    rw [EL_ev h', show updL ρ 1 v 1 = v from rfl, show updL ρ 1 v 0 = ρ 0 from rfl]
    simp only [decide_eq_false_iff_not]
    omega
theorem acc2_ok : AccOk acc2 := by
  intro ρ hr
  have h := rg0 hr
  have a1 : acc2.e0.ev ρ = 2 * ρ 0 + 1 := by
    show binZ .add .i64 (E2.ev ρ) 1 = _
    rw [E2_ev h, add_ev' _ _ (by omega)]
  have a2 : acc2.hi.ev ρ = 3 * ρ 0 := by
    exact E3_ev h
  rw [a1, a2]
  refine ⟨by omega, by omega, by omega, fun v h1 h2 => ?_⟩
  have hv : RgOk (updL ρ 1 v) [((.ofNat 2), (.ofNat 1000)), ((.ofNat 1), (.ofNat 10000))] := rg_upd hr ⟨by omega, by omega⟩
  have h' : 2 ≤ updL ρ 1 v 0 ∧ updL ρ 1 v 0 ≤ 1000 := h
  refine ⟨hv, fun x hx => ?_⟩
  have hx : x ∈ ([((.cmp .lss (.var 1) E3), true), ((.cmp .lss EL (.var 1)), false)] : List (SB × Bool)) := hx
  simp only [List.mem_cons, List.not_mem_nil, or_false] at hx
  rcases hx with rfl | rfl
  · show decide (updL ρ 1 v 1 < E3.ev (updL ρ 1 v)) = true
    rw [E3_ev h', show updL ρ 1 v 1 = v from rfl, show updL ρ 1 v 0 = ρ 0 from rfl]
    simp only [decide_eq_true_eq]
    omega
  · show decide (EL.ev (updL ρ 1 v) < updL ρ 1 v 1) = false
    rw [EL_ev h', show updL ρ 1 v 1 = v from rfl, show updL ρ 1 v 0 = ρ 0 from rfl]
    simp only [decide_eq_false_iff_not]
    omega
theorem acc3_ok : AccOk acc3 := by
  intro ρ hr
  have h := rg0 hr
  have a1 : acc3.e0.ev ρ = 3 * ρ 0 + 1 := by
    show binZ .add .i64 (E3.ev ρ) 1 = _
    rw [E3_ev h, add_ev' _ _ (by omega)]
  have a2 : acc3.hi.ev ρ = 4 * ρ 0 := by
    exact E4_ev h
  rw [a1, a2]
  refine ⟨by omega, by omega, by omega, fun v h1 h2 => ?_⟩
  have hv : RgOk (updL ρ 1 v) [((.ofNat 2), (.ofNat 1000)), ((.ofNat 1), (.ofNat 10000))] := rg_upd hr ⟨by omega, by omega⟩
  have h' : 2 ≤ updL ρ 1 v 0 ∧ updL ρ 1 v 0 ≤ 1000 := h
  refine ⟨hv, fun x hx => ?_⟩
  have hx : x ∈ ([((.cmp .lss (.var 1) E4), true), ((.cmp .lss EL (.var 1)), false)] : List (SB × Bool)) := hx
  simp only [List.mem_cons, List.not_mem_nil, or_false] at hx
  rcases hx with rfl | rfl
  · show decide (updL ρ 1 v 1 < E4.ev (updL ρ 1 v)) = true
    rw [E4_ev h', show updL ρ 1 v 1 = v from rfl, show updL ρ 1 v 0 = ρ 0 from rfl]
    simp only [decide_eq_true_eq]
    omega
  · show decide (EL.ev (updL ρ 1 v) < updL ρ 1 v 1) = false
    rw [EL_ev h', show updL ρ 1 v 1 = v from rfl, show updL ρ 1 v 0 = ρ 0 from rfl]
    simp only [decide_eq_false_iff_not]
    omega
theorem acc4_ok : AccOk acc4 := by
  intro ρ hr
  have h := rg0 hr
  have a1 : acc4.e0.ev ρ = 4 * ρ 0 + 1 := by
    show binZ .add .i64 (E4.ev ρ) 1 = _
    rw [E4_ev h, add_ev' _ _ (by omega)]
  have a2 : acc4.hi.ev ρ = 5 * ρ 0 := by
    exact E5_ev h
  rw [a1, a2]
  refine ⟨by omega, by omega, by omega, fun v h1 h2 => ?_⟩
  have hv : RgOk (updL ρ 1 v) [((.ofNat 2), (.ofNat 1000)), ((.ofNat 1), (.ofNat 10000))] := rg_upd hr ⟨by omega, by omega⟩
  have h' : 2 ≤ updL ρ 1 v 0 ∧ updL ρ 1 v 0 ≤ 1000 := h
  refine ⟨hv, fun x hx => ?_⟩
  have hx : x ∈ ([((.cmp .lss (.var 1) E5), true), ((.cmp .lss EL (.var 1)), false)] : List (SB × Bool)) := hx
  simp only [List.mem_cons, List.not_mem_nil, or_false] at hx
  rcases hx with rfl | rfl
  · show decide (updL ρ 1 v 1 < E5.ev (updL ρ 1 v)) = true
    rw [E5_ev h', show updL ρ 1 v 1 = v from rfl, show updL ρ 1 v 0 = ρ 0 from rfl]
    simp only [decide_eq_true_eq]
    omega
  · show decide (EL.ev (updL ρ 1 v) < updL ρ 1 v 1) = false
    rw [EL_ev h', show updL ρ 1 v 1 = v from rfl, show updL ρ 1 v 0 = ρ 0 from rfl]
    simp only [decide_eq_false_iff_not]
    omega
theorem acc5_ok : AccOk acc5 := by
  intro ρ hr
  have h := rg0 hr
  have a1 : acc5.e0.ev ρ = 5 * ρ 0 + 1 := by
    show binZ .add .i64 (E5.ev ρ) 1 = _
    rw [E5_ev h, add_ev' _ _ (by omega)]
  have a2 : acc5.hi.ev ρ = 6 * ρ 0 := by
    exact E6_ev h
  rw [a1, a2]
  refine ⟨by omega, by omega, by omega, fun v h1 h2 => ?_⟩
  have hv : RgOk (updL ρ 1 v) [((.ofNat 2), (.ofNat 1000)), ((.ofNat 1), (.ofNat 10000))] := rg_upd hr ⟨by omega, by omega⟩
  have h' : 2 ≤ updL ρ 1 v 0 ∧ updL ρ 1 v 0 ≤ 1000 := h
  refine ⟨hv, fun x hx => ?_⟩
  have hx : x ∈ ([((.cmp .lss (.var 1) E6), true), ((.cmp .lss EL (.var 1)), false)] : List (SB × Bool)) := hx
  simp only [List.mem_cons, List.not_mem_nil, or_false] at hx
  rcases hx with rfl | rfl
  · show decide (updL ρ 1 v 1 < E6.ev (updL ρ 1 v)) = true
    rw [E6_ev h', show updL ρ 1 v 1 = v from rfl, show updL ρ 1 v 0 = ρ 0 from rfl]
    simp only [decide_eq_true_eq]
    omega
  · show decide (EL.ev (updL ρ 1 v) < updL ρ 1 v 1) = false
    rw [EL_ev h', show updL ρ 1 v 1 = v from rfl, show updL ρ 1 v 0 = ρ 0 from rfl]
    simp only [decide_eq_false_iff_not]
    omega
theorem acc6_ok : AccOk acc6 := by
  intro ρ hr
  have h := rg0 hr
  have a1 : acc6.e0.ev ρ = 6 * ρ 0 + 1 := by
    show binZ .add .i64 (E6.ev ρ) 1 = _
    rw [E6_ev h, add_ev' _ _ (by omega)]
  have a2 : acc6.hi.ev ρ = 7 * ρ 0 := by
    exact E7_ev h
  rw [a1, a2]
  refine ⟨by omega, by omega, by omega, fun v h1 h2 => ?_⟩
  have hv : RgOk (updL ρ 1 v) [((.ofNat 2), (.ofNat 1000)), ((.ofNat 1), (.ofNat 10000))] := rg_upd hr ⟨by omega, by omega⟩
  have h' : 2 ≤ updL ρ 1 v 0 ∧ updL ρ 1 v 0 ≤ 1000 := h
  refine ⟨hv, fun x hx => ?_⟩
  have hx : x ∈ ([((.cmp .lss (.var 1) E7), true), ((.cmp .lss EL (.var 1)), false)] : List (SB × Bool)) := hx
  simp only [List.mem_cons, List.not_mem_nil, or_false] at hx
  rcases hx with rfl | rfl
  · show decide (updL ρ 1 v 1 < E7.ev (updL ρ 1 v)) = true
    rw [E7_ev h', show updL ρ 1 v 1 = v from rfl, show updL ρ 1 v 0 = ρ 0 from rfl]
    simp only [decide_eq_true_eq]
    omega
  · show decide (EL.ev (updL ρ 1 v) < updL ρ 1 v 1) = false
    rw [EL_ev h', show updL ρ 1 v 1 = v from rfl, show updL ρ 1 v 0 = ρ 0 from rfl]
    simp only [decide_eq_false_iff_not]
    omega
theorem acc7_ok : AccOk acc7 := by
  intro ρ hr
  have h := rg0 hr
  have a1 : acc7.e0.ev ρ = 7 * ρ 0 + 1 := by
    show binZ .add .i64 (E7.ev ρ) 1 = _
    rw [E7_ev h, add_ev' _ _ (by omega)]
  have a2 : acc7.hi.ev ρ = 8 * ρ 0 := by
    exact E8_ev h
  rw [a1, a2]
  refine ⟨by omega, by omega, by omega, fun v h1 h2 => ?_⟩
  have hv : RgOk (updL ρ 1 v) [((.ofNat 2), (.ofNat 1000)), ((.ofNat 1), (.ofNat 10000))] := rg_upd hr ⟨by omega, by omega⟩
  have h' : 2 ≤ updL ρ 1 v 0 ∧ updL ρ 1 v 0 ≤ 1000 := h
  refine ⟨hv, fun x hx => ?_⟩
  have hx : x ∈ ([((.cmp .lss (.var 1) E8), true), ((.cmp .lss EL (.var 1)), false)] : List (SB × Bool)) := hx
  simp only [List.mem_cons, List.not_mem_nil, or_false] at hx
  rcases hx with rfl | rfl
  · show decide (updL ρ 1 v 1 < E8.ev (updL ρ 1 v)) = true
    rw [E8_ev h', show updL ρ 1 v 1 = v from rfl, show updL ρ 1 v 0 = ρ 0 from rfl]
    simp only [decide_eq_true_eq]
    omega
  · show decide (EL.ev (updL ρ 1 v) < updL ρ 1 v 1) = false
    rw [EL_ev h', show updL ρ 1 v 1 = v from rfl, show updL ρ 1 v 0 = ρ 0 from rfl]
    simp only [decide_eq_false_iff_not]
    omega
theorem acc8_ok : AccOk acc8 := by
  intro ρ hr
  have h := rg0 hr
  have a1 : acc8.e0.ev ρ = 8 * ρ 0 + 1 := by
    show binZ .add .i64 (E8.ev ρ) 1 = _
    rw [E8_ev h, add_ev' _ _ (by omega)]
  have a2 : acc8.hi.ev ρ = 9 * ρ 0 := by
    exact E9_ev h
  rw [a1, a2]
  refine ⟨by omega, by omega, by omega, fun v h1 h2 => ?_⟩
  have hv : RgOk (updL ρ 1 v) [((.ofNat 2), (.ofNat 1000)), ((.ofNat 1), (.ofNat 10000))] := rg_upd hr ⟨by omega, by omega⟩
  have h' : 2 ≤ updL ρ 1 v 0 ∧ updL ρ 1 v 0 ≤ 1000 := h
  refine ⟨hv, fun x hx => ?_⟩
  have hx : x ∈ ([((.cmp .lss (.var 1) E9), true), ((.cmp .lss EL (.var 1)), false)] : List (SB × Bool)) := hx
  simp only [List.mem_cons, List.not_mem_nil, or_false] at hx
  rcases hx with rfl | rfl
  · show decide (updL ρ 1 v 1 < E9.ev (updL ρ 1 v)) = true
    rw [E9_ev h', show updL ρ 1 v 1 = v from rfl, show updL ρ 1 v 0 = ρ 0 from rfl]
    simp only [decide_eq_true_eq]
    omega
  · show decide (EL.ev (updL ρ 1 v) < updL ρ 1 v 1) = false
    rw [EL_ev h', show updL ρ 1 v 1 = v from rfl, show updL ρ 1 v 0 = ρ 0 from rfl]
    simp only [decide_eq_false_iff_not]
    omega
theorem acc9_ok : AccOk acc9 := by
  intro ρ hr
  have h := rg0 hr
  have a1 : acc9.e0.ev ρ = 9 * ρ 0 + 1 := by
    show binZ .add .i64 (E9.ev ρ) 1 = _
    rw [E9_ev h, add_ev' _ _ (by omega)]
  have a2 : acc9.hi.ev ρ = 10 * ρ 0 + 1 := by
    show binZ .add .i64 (EL.ev ρ) 1 = _
    rw [EL_ev h, add_ev' _ _ (by omega)]
  rw [a1, a2]
  refine ⟨by omega, by omega, by omega, fun v h1 h2 => ?_⟩
  have hv : RgOk (updL ρ 1 v) [((.ofNat 2), (.ofNat 1000)), ((.ofNat 1), (.ofNat 10000))] := rg_upd hr ⟨by omega, by omega⟩
  have h' : 2 ≤ updL ρ 1 v 0 ∧ updL ρ 1 v 0 ≤ 1000 := h
  refine ⟨hv, fun x hx => ?_⟩
  have hx : x ∈ ([((.cmp .lss EL (.var 1)), false)] : List (SB × Bool)) := hx
  simp only [List.mem_cons, List.not_mem_nil, or_false] at hx
  subst hx
  show decide (EL.ev (updL ρ 1 v) < updL ρ 1 v 1) = false
  rw [EL_ev h', show updL ρ 1 v 1 = v from rfl, show updL ρ 1 v 0 = ρ 0 from rfl]
  simp only [decide_eq_false_iff_not]
  omega
theorem deadE1 {ρ : Nat → Int} (h : 2 ≤ ρ 0 ∧ ρ 0 ≤ 1000) (e : (SB.cmp .lss EL E1).ev ρ = true) : False := by
  have e : decide (EL.ev ρ < E1.ev ρ) = true := e
  rw [EL_ev h, E1_ev h, decide_eq_true_eq] at e
  omega
theorem deadE2 {ρ : Nat → Int} (h : 2 ≤ ρ 0 ∧ ρ 0 ≤ 1000) (e : (SB.cmp .lss EL E2).ev ρ = true) : False := by
  have e : decide (EL.ev ρ < E2.ev ρ) = true := e
  rw [EL_ev h, E2_ev h, decide_eq_true_eq] at e
  omega
theorem deadE3 {ρ : Nat → Int} (h : 2 ≤ ρ 0 ∧ ρ 0 ≤ 1000) (e : (SB.cmp .lss EL E3).ev ρ = true) : False := by
  have e : decide (EL.ev ρ < E3.ev ρ) = true := e
  rw [EL_ev h, E3_ev h, decide_eq_true_eq] at e
  omega
theorem deadE4 {ρ : Nat → Int} (h : 2 ≤ ρ 0 ∧ ρ 0 ≤ 1000) (e : (SB.cmp .lss EL E4).ev ρ = true) : False := by
  have e : decide (EL.ev ρ < E4.ev ρ) = true := e
  rw [EL_ev h, E4_ev h, decide_eq_true_eq] at e
  omega
theorem deadE5 {ρ : Nat → Int} (h : 2 ≤ ρ 0 ∧ ρ 0 ≤ 1000) (e : (SB.cmp .lss EL E5).ev ρ = true) : False := by
  have e : decide (EL.ev ρ < E5.ev ρ) = true := e
  rw [EL_ev h, E5_ev h, decide_eq_true_eq] at e
  omega
theorem deadE6 {ρ : Nat → Int} (h : 2 ≤ ρ 0 ∧ ρ 0 ≤ 1000) (e : (SB.cmp .lss EL E6).ev ρ = true) : False := by
  have e : decide (EL.ev ρ < E6.ev ρ) = true := e
  rw [EL_ev h, E6_ev h, decide_eq_true_eq] at e
  omega
theorem deadE7 {ρ : Nat → Int} (h : 2 ≤ ρ 0 ∧ ρ 0 ≤ 1000) (e : (SB.cmp .lss EL E7).ev ρ = true) : False := by
  have e : decide (EL.ev ρ < E7.ev ρ) = true := e
  rw [EL_ev h, E7_ev h, decide_eq_true_eq] at e
  omega
theorem deadE8 {ρ : Nat → Int} (h : 2 ≤ ρ 0 ∧ ρ 0 ≤ 1000) (e : (SB.cmp .lss EL E8).ev ρ = true) : False := by
  have e : decide (EL.ev ρ < E8.ev ρ) = true := e
  rw [EL_ev h, E8_ev h, decide_eq_true_eq] at e
  omega
theorem deadE9 {ρ : Nat → Int} (h : 2 ≤ ρ 0 ∧ ρ 0 ≤ 1000) (e : (SB.cmp .lss EL E9).ev ρ = true) : False := by
  have e : decide (EL.ev ρ < E9.ev ρ) = true := e
  rw [EL_ev h, E9_ev h, decide_eq_true_eq] at e
  omega
theorem conjB_head {ρ : Nat → Int} {c : SB} {b : Bool} {l : List (SB × Bool)} (h : conjB ρ ((c, b) :: l)) : c.ev ρ = b := h.1
theorem plansK_ok : PlansOk Try.prog plansK := plansOk_ac plans_ok rfl fun a ha => by
  have ha : a ∈ [acc0, acc1, acc2, acc3, acc4, acc5, acc6, acc7, acc8, acc9] := ha
  simp only [List.mem_cons, List.not_mem_nil, or_false] at ha
  rcases ha with rfl | rfl | rfl | rfl | rfl | rfl | rfl | rfl | rfl | rfl
  · exact acc0_ok
  · exact acc1_ok
  · exact acc2_ok
  · exact acc3_ok
  · exact acc4_ok
  · exact acc5_ok
  · exact acc6_ok
  · exact acc7_ok
  · exact acc8_ok
  · exact acc9_ok

end Go.Proofs.Ytffadpfkdphhgaa

/-
  Those rounds do so.
-/
import Derived.Test.YtlmpmmcefdhgmaaGreatAccF
import Derived.Test.YtlmpmmcefdhgmaaGreatPlsOk
set_option linter.unusedVariables false
set_option linter.unusedSimpArgs false
namespace Go.Proofs.YtlmpmmcefdhgmaaGreat
open Go

theorem accM1_ok : AccOk accM1 := by
  intro ρ hr
  have h0 : (2 : Int) ≤ ρ 0 ∧ ρ 0 ≤ (300 : Int) := hr 0 _ _ rfl
  show (1 : Int) ≤ ρ 0 ∧ (-9223372036854775808 : Int) ≤ (1 : Int) ∧ ρ 0 ≤ 9223372036854775807 ∧ _
  refine ⟨by omega, by omega, by omega, fun v h1 h2 => ?_⟩
  have h1 : (1 : Int) ≤ v := h1
  have h2 : v < ρ 0 := h2
  refine ⟨fun i l u e => ?_, fun x hx => ?_⟩
  · match i, e with
    | 0, e => exact hr 0 l u e
    | 1, e => exact hr 1 l u e
    | 2, e => exact hr 2 l u e
    | 3, e => cases e; exact ⟨by show (1 : Int) ≤ v; omega, by show v ≤ (299 : Int); omega⟩
    | i + 4, e => cases e
  · have hx : x ∈ ([((.cmp .lss (.var 3) (.var 0)), true)] : List (SB × Bool)) := hx
    simp only [List.mem_cons, List.not_mem_nil, or_false] at hx
    subst hx
    show decide (updL ρ 3 v 3 < updL ρ 3 v 0) = true
    rw [show updL ρ 3 v 3 = v from rfl, show updL ρ 3 v 0 = ρ 0 from rfl]
    simp only [decide_eq_true_eq]
    omega
theorem plansM1_ok : PlansOk Tryz.prog plansM1 := plansOk_ac plans_ok rfl (fun a ha => by
  have ha : a ∈ [accM1] := ha
  simp only [List.mem_cons, List.not_mem_nil, or_false] at ha
  subst ha
  exact accM1_ok)
theorem accM2_ok : AccOk accM2 := by
  intro ρ hr
  have h0 : (3 : Int) ≤ ρ 0 ∧ ρ 0 ≤ (300 : Int) := hr 0 _ _ rfl
  show (2 : Int) ≤ ρ 0 ∧ (-9223372036854775808 : Int) ≤ (2 : Int) ∧ ρ 0 ≤ 9223372036854775807 ∧ _
  refine ⟨by omega, by omega, by omega, fun v h1 h2 => ?_⟩
  have h1 : (2 : Int) ≤ v := h1
  have h2 : v < ρ 0 := h2
  refine ⟨fun i l u e => ?_, fun x hx => ?_⟩
  · match i, e with
    | 0, e => exact hr 0 l u e
    | 1, e => exact hr 1 l u e
    | 2, e => exact hr 2 l u e
    | 3, e => cases e; exact ⟨by show (2 : Int) ≤ v; omega, by show v ≤ (299 : Int); omega⟩
    | i + 4, e => cases e
  · have hx : x ∈ ([((.cmp .lss (.var 3) (.var 0)), true)] : List (SB × Bool)) := hx
    simp only [List.mem_cons, List.not_mem_nil, or_false] at hx
    subst hx
    show decide (updL ρ 3 v 3 < updL ρ 3 v 0) = true
    rw [show updL ρ 3 v 3 = v from rfl, show updL ρ 3 v 0 = ρ 0 from rfl]
    simp only [decide_eq_true_eq]
    omega
theorem plansM2_ok : PlansOk Tryz.prog plansM2 := plansOk_ac plans_ok rfl (fun a ha => by
  have ha : a ∈ [accM2] := ha
  simp only [List.mem_cons, List.not_mem_nil, or_false] at ha
  subst ha
  exact accM2_ok)
theorem accM3_ok : AccOk accM3 := by
  intro ρ hr
  have h0 : (4 : Int) ≤ ρ 0 ∧ ρ 0 ≤ (300 : Int) := hr 0 _ _ rfl
  show (3 : Int) ≤ ρ 0 ∧ (-9223372036854775808 : Int) ≤ (3 : Int) ∧ ρ 0 ≤ 9223372036854775807 ∧ _
  refine ⟨by omega, by omega, by omega, fun v h1 h2 => ?_⟩
  have h1 : (3 : Int) ≤ v := h1
  have h2 : v < ρ 0 := h2
  refine ⟨fun i l u e => ?_, fun x hx => ?_⟩
  · match i, e with
    | 0, e => exact hr 0 l u e
    | 1, e => exact hr 1 l u e
    | 2, e => exact hr 2 l u e
    | 3, e => cases e; exact ⟨by show (3 : Int) ≤ v; omega, by show v ≤ (299 : Int); omega⟩
    | i + 4, e => cases e
  · have hx : x ∈ ([((.cmp .lss (.var 3) (.var 0)), true)] : List (SB × Bool)) := hx
    simp only [List.mem_cons, List.not_mem_nil, or_false] at hx
    subst hx
    show decide (updL ρ 3 v 3 < updL ρ 3 v 0) = true
    rw [show updL ρ 3 v 3 = v from rfl, show updL ρ 3 v 0 = ρ 0 from rfl]
    simp only [decide_eq_true_eq]
    omega
theorem plansM3_ok : PlansOk Tryz.prog plansM3 := plansOk_ac plans_ok rfl (fun a ha => by
  have ha : a ∈ [accM3] := ha
  simp only [List.mem_cons, List.not_mem_nil, or_false] at ha
  subst ha
  exact accM3_ok)
theorem accM4_ok : AccOk accM4 := by
  intro ρ hr
  have h0 : (5 : Int) ≤ ρ 0 ∧ ρ 0 ≤ (300 : Int) := hr 0 _ _ rfl
  show (4 : Int) ≤ ρ 0 ∧ (-9223372036854775808 : Int) ≤ (4 : Int) ∧ ρ 0 ≤ 9223372036854775807 ∧ _
  refine ⟨by omega, by omega, by omega, fun v h1 h2 => ?_⟩
  have h1 : (4 : Int) ≤ v := h1
  have h2 : v < ρ 0 := h2
  refine ⟨fun i l u e => ?_, fun x hx => ?_⟩
  · match i, e with
    | 0, e => exact hr 0 l u e
    | 1, e => exact hr 1 l u e
    | 2, e => exact hr 2 l u e
    | 3, e => cases e; exact ⟨by show (4 : Int) ≤ v; omega, by show v ≤ (299 : Int); omega⟩
    | i + 4, e => cases e
  · have hx : x ∈ ([((.cmp .lss (.var 3) (.var 0)), true)] : List (SB × Bool)) := hx
    simp only [List.mem_cons, List.not_mem_nil, or_false] at hx
    subst hx
    show decide (updL ρ 3 v 3 < updL ρ 3 v 0) = true
    rw [show updL ρ 3 v 3 = v from rfl, show updL ρ 3 v 0 = ρ 0 from rfl]
    simp only [decide_eq_true_eq]
    omega
theorem plansM4_ok : PlansOk Tryz.prog plansM4 := plansOk_ac plans_ok rfl (fun a ha => by
  have ha : a ∈ [accM4] := ha
  simp only [List.mem_cons, List.not_mem_nil, or_false] at ha
  subst ha
  exact accM4_ok)
theorem accM5_ok : AccOk accM5 := by
  intro ρ hr
  have h0 : (6 : Int) ≤ ρ 0 ∧ ρ 0 ≤ (300 : Int) := hr 0 _ _ rfl
  show (5 : Int) ≤ ρ 0 ∧ (-9223372036854775808 : Int) ≤ (5 : Int) ∧ ρ 0 ≤ 9223372036854775807 ∧ _
  refine ⟨by omega, by omega, by omega, fun v h1 h2 => ?_⟩
  have h1 : (5 : Int) ≤ v := h1
  have h2 : v < ρ 0 := h2
  refine ⟨fun i l u e => ?_, fun x hx => ?_⟩
  · match i, e with
    | 0, e => exact hr 0 l u e
    | 1, e => exact hr 1 l u e
    | 2, e => exact hr 2 l u e
    | 3, e => cases e; exact ⟨by show (5 : Int) ≤ v; omega, by show v ≤ (299 : Int); omega⟩
    | i + 4, e => cases e
  · have hx : x ∈ ([((.cmp .lss (.var 3) (.var 0)), true)] : List (SB × Bool)) := hx
    simp only [List.mem_cons, List.not_mem_nil, or_false] at hx
    subst hx
    show decide (updL ρ 3 v 3 < updL ρ 3 v 0) = true
    rw [show updL ρ 3 v 3 = v from rfl, show updL ρ 3 v 0 = ρ 0 from rfl]
    simp only [decide_eq_true_eq]
    omega
theorem plansM5_ok : PlansOk Tryz.prog plansM5 := plansOk_ac plans_ok rfl (fun a ha => by
  have ha : a ∈ [accM5] := ha
  simp only [List.mem_cons, List.not_mem_nil, or_false] at ha
  subst ha
  exact accM5_ok)
theorem accM6_ok : AccOk accM6 := by
  intro ρ hr
  have h0 : (7 : Int) ≤ ρ 0 ∧ ρ 0 ≤ (300 : Int) := hr 0 _ _ rfl
  show (6 : Int) ≤ ρ 0 ∧ (-9223372036854775808 : Int) ≤ (6 : Int) ∧ ρ 0 ≤ 9223372036854775807 ∧ _
  refine ⟨by omega, by omega, by omega, fun v h1 h2 => ?_⟩
  have h1 : (6 : Int) ≤ v := h1
  have h2 : v < ρ 0 := h2
  refine ⟨fun i l u e => ?_, fun x hx => ?_⟩
  · match i, e with
    | 0, e => exact hr 0 l u e
    | 1, e => exact hr 1 l u e
    | 2, e => exact hr 2 l u e
    | 3, e => cases e; exact ⟨by show (6 : Int) ≤ v; omega, by show v ≤ (299 : Int); omega⟩
    | i + 4, e => cases e
  · have hx : x ∈ ([((.cmp .lss (.var 3) (.var 0)), true)] : List (SB × Bool)) := hx
    simp only [List.mem_cons, List.not_mem_nil, or_false] at hx
    subst hx
    show decide (updL ρ 3 v 3 < updL ρ 3 v 0) = true
    rw [show updL ρ 3 v 3 = v from rfl, show updL ρ 3 v 0 = ρ 0 from rfl]
    simp only [decide_eq_true_eq]
    omega
theorem plansM6_ok : PlansOk Tryz.prog plansM6 := plansOk_ac plans_ok rfl (fun a ha => by
  have ha : a ∈ [accM6] := ha
  simp only [List.mem_cons, List.not_mem_nil, or_false] at ha
  subst ha
  exact accM6_ok)
theorem accM7_ok : AccOk accM7 := by
  intro ρ hr
  have h0 : (8 : Int) ≤ ρ 0 ∧ ρ 0 ≤ (300 : Int) := hr 0 _ _ rfl
  show (7 : Int) ≤ ρ 0 ∧ (-9223372036854775808 : Int) ≤ (7 : Int) ∧ ρ 0 ≤ 9223372036854775807 ∧ _
  refine ⟨by omega, by omega, by omega, fun v h1 h2 => ?_⟩
  have h1 : (7 : Int) ≤ v := h1
  have h2 : v < ρ 0 := h2
  refine ⟨fun i l u e => ?_, fun x hx => ?_⟩
  · match i, e with
    | 0, e => exact hr 0 l u e
    | 1, e => exact hr 1 l u e
    | 2, e => exact hr 2 l u e
    | 3, e => cases e; exact ⟨by show (7 : Int) ≤ v; omega, by show v ≤ (299 : Int); omega⟩
    | i + 4, e => cases e
  · have hx : x ∈ ([((.cmp .lss (.var 3) (.var 0)), true)] : List (SB × Bool)) := hx
    simp only [List.mem_cons, List.not_mem_nil, or_false] at hx
    subst hx
    show decide (updL ρ 3 v 3 < updL ρ 3 v 0) = true
    rw [show updL ρ 3 v 3 = v from rfl, show updL ρ 3 v 0 = ρ 0 from rfl]
    simp only [decide_eq_true_eq]
    omega
theorem plansM7_ok : PlansOk Tryz.prog plansM7 := plansOk_ac plans_ok rfl (fun a ha => by
  have ha : a ∈ [accM7] := ha
  simp only [List.mem_cons, List.not_mem_nil, or_false] at ha
  subst ha
  exact accM7_ok)
theorem accM8_ok : AccOk accM8 := by
  intro ρ hr
  have h0 : (9 : Int) ≤ ρ 0 ∧ ρ 0 ≤ (300 : Int) := hr 0 _ _ rfl
  show (8 : Int) ≤ ρ 0 ∧ (-9223372036854775808 : Int) ≤ (8 : Int) ∧ ρ 0 ≤ 9223372036854775807 ∧ _
  refine ⟨by omega, by omega, by omega, fun v h1 h2 => ?_⟩
  have h1 : (8 : Int) ≤ v := h1
  have h2 : v < ρ 0 := h2
  refine ⟨fun i l u e => ?_, fun x hx => ?_⟩
  · match i, e with
    | 0, e => exact hr 0 l u e
    | 1, e => exact hr 1 l u e
    | 2, e => exact hr 2 l u e
    | 3, e => cases e; exact ⟨by show (8 : Int) ≤ v; omega, by show v ≤ (299 : Int); omega⟩
    | i + 4, e => cases e
  · have hx : x ∈ ([((.cmp .lss (.var 3) (.var 0)), true)] : List (SB × Bool)) := hx
    simp only [List.mem_cons, List.not_mem_nil, or_false] at hx
    subst hx
    show decide (updL ρ 3 v 3 < updL ρ 3 v 0) = true
    rw [show updL ρ 3 v 3 = v from rfl, show updL ρ 3 v 0 = ρ 0 from rfl]
    simp only [decide_eq_true_eq]
    omega
theorem plansM8_ok : PlansOk Tryz.prog plansM8 := plansOk_ac plans_ok rfl (fun a ha => by
  have ha : a ∈ [accM8] := ha
  simp only [List.mem_cons, List.not_mem_nil, or_false] at ha
  subst ha
  exact accM8_ok)
theorem accM9_ok : AccOk accM9 := by
  intro ρ hr
  have h0 : (10 : Int) ≤ ρ 0 ∧ ρ 0 ≤ (300 : Int) := hr 0 _ _ rfl
  show (9 : Int) ≤ ρ 0 ∧ (-9223372036854775808 : Int) ≤ (9 : Int) ∧ ρ 0 ≤ 9223372036854775807 ∧ _
  refine ⟨by omega, by omega, by omega, fun v h1 h2 => ?_⟩
  have h1 : (9 : Int) ≤ v := h1
  have h2 : v < ρ 0 := h2
  refine ⟨fun i l u e => ?_, fun x hx => ?_⟩
  · match i, e with
    | 0, e => exact hr 0 l u e
    | 1, e => exact hr 1 l u e
    | 2, e => exact hr 2 l u e
    | 3, e => cases e; exact ⟨by show (9 : Int) ≤ v; omega, by show v ≤ (299 : Int); omega⟩
    | i + 4, e => cases e
  · have hx : x ∈ ([((.cmp .lss (.var 3) (.var 0)), true)] : List (SB × Bool)) := hx
    simp only [List.mem_cons, List.not_mem_nil, or_false] at hx
    subst hx
    show decide (updL ρ 3 v 3 < updL ρ 3 v 0) = true
    rw [show updL ρ 3 v 3 = v from rfl, show updL ρ 3 v 0 = ρ 0 from rfl]
    simp only [decide_eq_true_eq]
    omega
theorem plansM9_ok : PlansOk Tryz.prog plansM9 := plansOk_ac plans_ok rfl (fun a ha => by
  have ha : a ∈ [accM9] := ha
  simp only [List.mem_cons, List.not_mem_nil, or_false] at ha
  subst ha
  exact accM9_ok)
theorem accM10_ok : AccOk accM10 := by
  intro ρ hr
  have h0 : (11 : Int) ≤ ρ 0 ∧ ρ 0 ≤ (300 : Int) := hr 0 _ _ rfl
  show (10 : Int) ≤ ρ 0 ∧ (-9223372036854775808 : Int) ≤ (10 : Int) ∧ ρ 0 ≤ 9223372036854775807 ∧ _
  refine ⟨by omega, by omega, by omega, fun v h1 h2 => ?_⟩
  have h1 : (10 : Int) ≤ v := h1
  have h2 : v < ρ 0 := h2
  refine ⟨fun i l u e => ?_, fun x hx => ?_⟩
  · match i, e with
    | 0, e => exact hr 0 l u e
    | 1, e => exact hr 1 l u e
    | 2, e => exact hr 2 l u e
    | 3, e => cases e; exact ⟨by show (10 : Int) ≤ v; omega, by show v ≤ (299 : Int); omega⟩
    | i + 4, e => cases e
  · have hx : x ∈ ([((.cmp .lss (.var 3) (.var 0)), true)] : List (SB × Bool)) := hx
    simp only [List.mem_cons, List.not_mem_nil, or_false] at hx
    subst hx
    show decide (updL ρ 3 v 3 < updL ρ 3 v 0) = true
    rw [show updL ρ 3 v 3 = v from rfl, show updL ρ 3 v 0 = ρ 0 from rfl]
    simp only [decide_eq_true_eq]
    omega
theorem plansM10_ok : PlansOk Tryz.prog plansM10 := plansOk_ac plans_ok rfl (fun a ha => by
  have ha : a ∈ [accM10] := ha
  simp only [List.mem_cons, List.not_mem_nil, or_false] at ha
  subst ha
  exact accM10_ok)
theorem accM11_ok : AccOk accM11 := by
  intro ρ hr
  have h0 : (12 : Int) ≤ ρ 0 ∧ ρ 0 ≤ (300 : Int) := hr 0 _ _ rfl
  show (11 : Int) ≤ ρ 0 ∧ (-9223372036854775808 : Int) ≤ (11 : Int) ∧ ρ 0 ≤ 9223372036854775807 ∧ _
  refine ⟨by omega, by omega, by omega, fun v h1 h2 => ?_⟩
  have h1 : (11 : Int) ≤ v := h1
  have h2 : v < ρ 0 := h2
  refine ⟨fun i l u e => ?_, fun x hx => ?_⟩
  · match i, e with
    | 0, e => exact hr 0 l u e
    | 1, e => exact hr 1 l u e
    | 2, e => exact hr 2 l u e
    | 3, e => cases e; exact ⟨by show (11 : Int) ≤ v; omega, by show v ≤ (299 : Int); omega⟩
    | i + 4, e => cases e
  · have hx : x ∈ ([((.cmp .lss (.var 3) (.var 0)), true)] : List (SB × Bool)) := hx
    simp only [List.mem_cons, List.not_mem_nil, or_false] at hx
    subst hx
    show decide (updL ρ 3 v 3 < updL ρ 3 v 0) = true
    rw [show updL ρ 3 v 3 = v from rfl, show updL ρ 3 v 0 = ρ 0 from rfl]
    simp only [decide_eq_true_eq]
    omega
theorem plansM11_ok : PlansOk Tryz.prog plansM11 := plansOk_ac plans_ok rfl (fun a ha => by
  have ha : a ∈ [accM11] := ha
  simp only [List.mem_cons, List.not_mem_nil, or_false] at ha
  subst ha
  exact accM11_ok)
theorem accM12_ok : AccOk accM12 := by
  intro ρ hr
  have h0 : (13 : Int) ≤ ρ 0 ∧ ρ 0 ≤ (300 : Int) := hr 0 _ _ rfl
  show (12 : Int) ≤ ρ 0 ∧ (-9223372036854775808 : Int) ≤ (12 : Int) ∧ ρ 0 ≤ 9223372036854775807 ∧ _
  refine ⟨by omega, by omega, by omega, fun v h1 h2 => ?_⟩
  have h1 : (12 : Int) ≤ v := h1
  have h2 : v < ρ 0 := h2
  refine ⟨fun i l u e => ?_, fun x hx => ?_⟩
  · match i, e with
    | 0, e => exact hr 0 l u e
    | 1, e => exact hr 1 l u e
    | 2, e => exact hr 2 l u e
    | 3, e => cases e; exact ⟨by show (12 : Int) ≤ v; omega, by show v ≤ (299 : Int); omega⟩
    | i + 4, e => cases e
  · have hx : x ∈ ([((.cmp .lss (.var 3) (.var 0)), true)] : List (SB × Bool)) := hx
    simp only [List.mem_cons, List.not_mem_nil, or_false] at hx
    subst hx
    show decide (updL ρ 3 v 3 < updL ρ 3 v 0) = true
    rw [show updL ρ 3 v 3 = v from rfl, show updL ρ 3 v 0 = ρ 0 from rfl]
    simp only [decide_eq_true_eq]
    omega
theorem plansM12_ok : PlansOk Tryz.prog plansM12 := plansOk_ac plans_ok rfl (fun a ha => by
  have ha : a ∈ [accM12] := ha
  simp only [List.mem_cons, List.not_mem_nil, or_false] at ha
  subst ha
  exact accM12_ok)
theorem accM13_ok : AccOk accM13 := by
  intro ρ hr
  have h0 : (14 : Int) ≤ ρ 0 ∧ ρ 0 ≤ (300 : Int) := hr 0 _ _ rfl
  show (13 : Int) ≤ ρ 0 ∧ (-9223372036854775808 : Int) ≤ (13 : Int) ∧ ρ 0 ≤ 9223372036854775807 ∧ _
  refine ⟨by omega, by omega, by omega, fun v h1 h2 => ?_⟩
  have h1 : (13 : Int) ≤ v := h1
  have h2 : v < ρ 0 := h2
  refine ⟨fun i l u e => ?_, fun x hx => ?_⟩
  · match i, e with
    | 0, e => exact hr 0 l u e
    | 1, e => exact hr 1 l u e
    | 2, e => exact hr 2 l u e
    | 3, e => cases e; exact ⟨by show (13 : Int) ≤ v; omega, by show v ≤ (299 : Int); omega⟩
    | i + 4, e => cases e
  · have hx : x ∈ ([((.cmp .lss (.var 3) (.var 0)), true)] : List (SB × Bool)) := hx
    simp only [List.mem_cons, List.not_mem_nil, or_false] at hx
    subst hx
    show decide (updL ρ 3 v 3 < updL ρ 3 v 0) = true
    rw [show updL ρ 3 v 3 = v from rfl, show updL ρ 3 v 0 = ρ 0 from rfl]
    simp only [decide_eq_true_eq]
    omega
theorem plansM13_ok : PlansOk Tryz.prog plansM13 := plansOk_ac plans_ok rfl (fun a ha => by
  have ha : a ∈ [accM13] := ha
  simp only [List.mem_cons, List.not_mem_nil, or_false] at ha
  subst ha
  exact accM13_ok)
theorem accM14_ok : AccOk accM14 := by
  intro ρ hr
  have h0 : (15 : Int) ≤ ρ 0 ∧ ρ 0 ≤ (300 : Int) := hr 0 _ _ rfl
  show (14 : Int) ≤ ρ 0 ∧ (-9223372036854775808 : Int) ≤ (14 : Int) ∧ ρ 0 ≤ 9223372036854775807 ∧ _
  refine ⟨by omega, by omega, by omega, fun v h1 h2 => ?_⟩
  have h1 : (14 : Int) ≤ v := h1
  have h2 : v < ρ 0 := h2
  refine ⟨fun i l u e => ?_, fun x hx => ?_⟩
  · match i, e with
    | 0, e => exact hr 0 l u e
    | 1, e => exact hr 1 l u e
    | 2, e => exact hr 2 l u e
    | 3, e => cases e; exact ⟨by show (14 : Int) ≤ v; omega, by show v ≤ (299 : Int); omega⟩
    | i + 4, e => cases e
  · have hx : x ∈ ([((.cmp .lss (.var 3) (.var 0)), true)] : List (SB × Bool)) := hx
    simp only [List.mem_cons, List.not_mem_nil, or_false] at hx
    subst hx
    show decide (updL ρ 3 v 3 < updL ρ 3 v 0) = true
    rw [show updL ρ 3 v 3 = v from rfl, show updL ρ 3 v 0 = ρ 0 from rfl]
    simp only [decide_eq_true_eq]
    omega
theorem plansM14_ok : PlansOk Tryz.prog plansM14 := plansOk_ac plans_ok rfl (fun a ha => by
  have ha : a ∈ [accM14] := ha
  simp only [List.mem_cons, List.not_mem_nil, or_false] at ha
  subst ha
  exact accM14_ok)
theorem accM15_ok : AccOk accM15 := by
  intro ρ hr
  have h0 : (16 : Int) ≤ ρ 0 ∧ ρ 0 ≤ (300 : Int) := hr 0 _ _ rfl
  show (15 : Int) ≤ ρ 0 ∧ (-9223372036854775808 : Int) ≤ (15 : Int) ∧ ρ 0 ≤ 9223372036854775807 ∧ _
  refine ⟨by omega, by omega, by omega, fun v h1 h2 => ?_⟩
  have h1 : (15 : Int) ≤ v := h1
  have h2 : v < ρ 0 := h2
  refine ⟨fun i l u e => ?_, fun x hx => ?_⟩
  · match i, e with
    | 0, e => exact hr 0 l u e
    | 1, e => exact hr 1 l u e
    | 2, e => exact hr 2 l u e
    | 3, e => cases e; exact ⟨by show (15 : Int) ≤ v; omega, by show v ≤ (299 : Int); omega⟩
    | i + 4, e => cases e
  · have hx : x ∈ ([((.cmp .lss (.var 3) (.var 0)), true)] : List (SB × Bool)) := hx
    simp only [List.mem_cons, List.not_mem_nil, or_false] at hx
    subst hx
    show decide (updL ρ 3 v 3 < updL ρ 3 v 0) = true
    rw [show updL ρ 3 v 3 = v from rfl, show updL ρ 3 v 0 = ρ 0 from rfl]
    simp only [decide_eq_true_eq]
    omega
theorem plansM15_ok : PlansOk Tryz.prog plansM15 := plansOk_ac plans_ok rfl (fun a ha => by
  have ha : a ∈ [accM15] := ha
  simp only [List.mem_cons, List.not_mem_nil, or_false] at ha
  subst ha
  exact accM15_ok)
theorem accM16_ok : AccOk accM16 := by
  intro ρ hr
  have h0 : (17 : Int) ≤ ρ 0 ∧ ρ 0 ≤ (300 : Int) := hr 0 _ _ rfl
  show (16 : Int) ≤ ρ 0 ∧ (-9223372036854775808 : Int) ≤ (16 : Int) ∧ ρ 0 ≤ 9223372036854775807 ∧ _
  refine ⟨by omega, by omega, by omega, fun v h1 h2 => ?_⟩
  have h1 : (16 : Int) ≤ v := h1
  have h2 : v < ρ 0 := h2
  refine ⟨fun i l u e => ?_, fun x hx => ?_⟩
  · match i, e with
    | 0, e => exact hr 0 l u e
    | 1, e => exact hr 1 l u e
    | 2, e => exact hr 2 l u e
    | 3, e => cases e; exact ⟨by show (16 : Int) ≤ v; omega, by show v ≤ (299 : Int); omega⟩
    | i + 4, e => cases e
  · have hx : x ∈ ([((.cmp .lss (.var 3) (.var 0)), true)] : List (SB × Bool)) := hx
    simp only [List.mem_cons, List.not_mem_nil, or_false] at hx
    subst hx
    show decide (updL ρ 3 v 3 < updL ρ 3 v 0) = true
    rw [show updL ρ 3 v 3 = v from rfl, show updL ρ 3 v 0 = ρ 0 from rfl]
    simp only [decide_eq_true_eq]
    omega
theorem plansM16_ok : PlansOk Tryz.prog plansM16 := plansOk_ac plans_ok rfl (fun a ha => by
  have ha : a ∈ [accM16] := ha
  simp only [List.mem_cons, List.not_mem_nil, or_false] at ha
  subst ha
  exact accM16_ok)
theorem accM17_ok : AccOk accM17 := by
  intro ρ hr
  have h0 : (18 : Int) ≤ ρ 0 ∧ ρ 0 ≤ (300 : Int) := hr 0 _ _ rfl
  show (17 : Int) ≤ ρ 0 ∧ (-9223372036854775808 : Int) ≤ (17 : Int) ∧ ρ 0 ≤ 9223372036854775807 ∧ _
  refine ⟨by omega, by omega, by omega, fun v h1 h2 => ?_⟩
  have h1 : (17 : Int) ≤ v := h1
  have h2 : v < ρ 0 := h2
  refine ⟨fun i l u e => ?_, fun x hx => ?_⟩
  · match i, e with
    | 0, e => exact hr 0 l u e
    | 1, e => exact hr 1 l u e
    | 2, e => exact hr 2 l u e
    | 3, e => cases e; exact ⟨by show (17 : Int) ≤ v; omega, by show v ≤ (299 : Int); omega⟩
    | i + 4, e => cases e
  · have hx : x ∈ ([((.cmp .lss (.var 3) (.var 0)), true)] : List (SB × Bool)) := hx
    simp only [List.mem_cons, List.not_mem_nil, or_false] at hx
    subst hx
    show decide (updL ρ 3 v 3 < updL ρ 3 v 0) = true
    rw [show updL ρ 3 v 3 = v from rfl, show updL ρ 3 v 0 = ρ 0 from rfl]
    simp only [decide_eq_true_eq]
    omega
theorem plansM17_ok : PlansOk Tryz.prog plansM17 := plansOk_ac plans_ok rfl (fun a ha => by
  have ha : a ∈ [accM17] := ha
  simp only [List.mem_cons, List.not_mem_nil, or_false] at ha
  subst ha
  exact accM17_ok)
theorem accM18_ok : AccOk accM18 := by
  intro ρ hr
  have h0 : (19 : Int) ≤ ρ 0 ∧ ρ 0 ≤ (300 : Int) := hr 0 _ _ rfl
  show (18 : Int) ≤ ρ 0 ∧ (-9223372036854775808 : Int) ≤ (18 : Int) ∧ ρ 0 ≤ 9223372036854775807 ∧ _
  refine ⟨by omega, by omega, by omega, fun v h1 h2 => ?_⟩
  have h1 : (18 : Int) ≤ v := h1
  have h2 : v < ρ 0 := h2
  refine ⟨fun i l u e => ?_, fun x hx => ?_⟩
  · match i, e with
    | 0, e => exact hr 0 l u e
    | 1, e => exact hr 1 l u e
    | 2, e => exact hr 2 l u e
    | 3, e => cases e; exact ⟨by show (18 : Int) ≤ v; omega, by show v ≤ (299 : Int); omega⟩
    | i + 4, e => cases e
  · have hx : x ∈ ([((.cmp .lss (.var 3) (.var 0)), true)] : List (SB × Bool)) := hx
    simp only [List.mem_cons, List.not_mem_nil, or_false] at hx
    subst hx
    show decide (updL ρ 3 v 3 < updL ρ 3 v 0) = true
    rw [show updL ρ 3 v 3 = v from rfl, show updL ρ 3 v 0 = ρ 0 from rfl]
    simp only [decide_eq_true_eq]
    omega
theorem plansM18_ok : PlansOk Tryz.prog plansM18 := plansOk_ac plans_ok rfl (fun a ha => by
  have ha : a ∈ [accM18] := ha
  simp only [List.mem_cons, List.not_mem_nil, or_false] at ha
  subst ha
  exact accM18_ok)
theorem accM19_ok : AccOk accM19 := by
  intro ρ hr
  have h0 : (20 : Int) ≤ ρ 0 ∧ ρ 0 ≤ (300 : Int) := hr 0 _ _ rfl
  show (19 : Int) ≤ ρ 0 ∧ (-9223372036854775808 : Int) ≤ (19 : Int) ∧ ρ 0 ≤ 9223372036854775807 ∧ _
  refine ⟨by omega, by omega, by omega, fun v h1 h2 => ?_⟩
  have h1 : (19 : Int) ≤ v := h1
  have h2 : v < ρ 0 := h2
  refine ⟨fun i l u e => ?_, fun x hx => ?_⟩
  · match i, e with
    | 0, e => exact hr 0 l u e
    | 1, e => exact hr 1 l u e
    | 2, e => exact hr 2 l u e
    | 3, e => cases e; exact ⟨by show (19 : Int) ≤ v; omega, by show v ≤ (299 : Int); omega⟩
    | i + 4, e => cases e
  · have hx : x ∈ ([((.cmp .lss (.var 3) (.var 0)), true)] : List (SB × Bool)) := hx
    simp only [List.mem_cons, List.not_mem_nil, or_false] at hx
    subst hx
    show decide (updL ρ 3 v 3 < updL ρ 3 v 0) = true
    rw [show updL ρ 3 v 3 = v from rfl, show updL ρ 3 v 0 = ρ 0 from rfl]
    simp only [decide_eq_true_eq]
    omega
theorem plansM19_ok : PlansOk Tryz.prog plansM19 := plansOk_ac plans_ok rfl (fun a ha => by
  have ha : a ∈ [accM19] := ha
  simp only [List.mem_cons, List.not_mem_nil, or_false] at ha
  subst ha
  exact accM19_ok)
theorem accM20_ok : AccOk accM20 := by
  intro ρ hr
  have h0 : (21 : Int) ≤ ρ 0 ∧ ρ 0 ≤ (300 : Int) := hr 0 _ _ rfl
  show (20 : Int) ≤ ρ 0 ∧ (-9223372036854775808 : Int) ≤ (20 : Int) ∧ ρ 0 ≤ 9223372036854775807 ∧ _
  refine ⟨by omega, by omega, by omega, fun v h1 h2 => ?_⟩
  have h1 : (20 : Int) ≤ v := h1
  have h2 : v < ρ 0 := h2
  refine ⟨fun i l u e => ?_, fun x hx => ?_⟩
  · match i, e with
    | 0, e => exact hr 0 l u e
    | 1, e => exact hr 1 l u e
    | 2, e => exact hr 2 l u e
    | 3, e => cases e; exact ⟨by show (20 : Int) ≤ v; omega, by show v ≤ (299 : Int); omega⟩
    | i + 4, e => cases e
  · have hx : x ∈ ([((.cmp .lss (.var 3) (.var 0)), true)] : List (SB × Bool)) := hx
    simp only [List.mem_cons, List.not_mem_nil, or_false] at hx
    subst hx
    show decide (updL ρ 3 v 3 < updL ρ 3 v 0) = true
    rw [show updL ρ 3 v 3 = v from rfl, show updL ρ 3 v 0 = ρ 0 from rfl]
    simp only [decide_eq_true_eq]
    omega
theorem plansM20_ok : PlansOk Tryz.prog plansM20 := plansOk_ac plans_ok rfl (fun a ha => by
  have ha : a ∈ [accM20] := ha
  simp only [List.mem_cons, List.not_mem_nil, or_false] at ha
  subst ha
  exact accM20_ok)
theorem accM21_ok : AccOk accM21 := by
  intro ρ hr
  have h0 : (22 : Int) ≤ ρ 0 ∧ ρ 0 ≤ (300 : Int) := hr 0 _ _ rfl
  show (21 : Int) ≤ ρ 0 ∧ (-9223372036854775808 : Int) ≤ (21 : Int) ∧ ρ 0 ≤ 9223372036854775807 ∧ _
  refine ⟨by omega, by omega, by omega, fun v h1 h2 => ?_⟩
  have h1 : (21 : Int) ≤ v := h1
  have h2 : v < ρ 0 := h2
  refine ⟨fun i l u e => ?_, fun x hx => ?_⟩
  · match i, e with
    | 0, e => exact hr 0 l u e
    | 1, e => exact hr 1 l u e
    | 2, e => exact hr 2 l u e
    | 3, e => cases e; exact ⟨by show (21 : Int) ≤ v; omega, by show v ≤ (299 : Int); omega⟩
    | i + 4, e => cases e
  · have hx : x ∈ ([((.cmp .lss (.var 3) (.var 0)), true)] : List (SB × Bool)) := hx
    simp only [List.mem_cons, List.not_mem_nil, or_false] at hx
    subst hx
    show decide (updL ρ 3 v 3 < updL ρ 3 v 0) = true
    rw [show updL ρ 3 v 3 = v from rfl, show updL ρ 3 v 0 = ρ 0 from rfl]
    simp only [decide_eq_true_eq]
    omega
theorem plansM21_ok : PlansOk Tryz.prog plansM21 := plansOk_ac plans_ok rfl (fun a ha => by
  have ha : a ∈ [accM21] := ha
  simp only [List.mem_cons, List.not_mem_nil, or_false] at ha
  subst ha
  exact accM21_ok)
theorem accM22_ok : AccOk accM22 := by
  intro ρ hr
  have h0 : (23 : Int) ≤ ρ 0 ∧ ρ 0 ≤ (300 : Int) := hr 0 _ _ rfl
  show (22 : Int) ≤ ρ 0 ∧ (-9223372036854775808 : Int) ≤ (22 : Int) ∧ ρ 0 ≤ 9223372036854775807 ∧ _
  refine ⟨by omega, by omega, by omega, fun v h1 h2 => ?_⟩
  have h1 : (22 : Int) ≤ v := h1
  have h2 : v < ρ 0 := h2
  refine ⟨fun i l u e => ?_, fun x hx => ?_⟩
  · match i, e with
    | 0, e => exact hr 0 l u e
    | 1, e => exact hr 1 l u e
    | 2, e => exact hr 2 l u e
    | 3, e => cases e; exact ⟨by show (22 : Int) ≤ v; omega, by show v ≤ (299 : Int); omega⟩
    | i + 4, e => cases e
  · have hx : x ∈ ([((.cmp .lss (.var 3) (.var 0)), true)] : List (SB × Bool)) := hx
    simp only [List.mem_cons, List.not_mem_nil, or_false] at hx
    subst hx
    show decide (updL ρ 3 v 3 < updL ρ 3 v 0) = true
    rw [show updL ρ 3 v 3 = v from rfl, show updL ρ 3 v 0 = ρ 0 from rfl]
    simp only [decide_eq_true_eq]
    omega
theorem plansM22_ok : PlansOk Tryz.prog plansM22 := plansOk_ac plans_ok rfl (fun a ha => by
  have ha : a ∈ [accM22] := ha
  simp only [List.mem_cons, List.not_mem_nil, or_false] at ha
  subst ha
  exact accM22_ok)
theorem accM23_ok : AccOk accM23 := by
  intro ρ hr
  have h0 : (24 : Int) ≤ ρ 0 ∧ ρ 0 ≤ (300 : Int) := hr 0 _ _ rfl
  show (23 : Int) ≤ ρ 0 ∧ (-9223372036854775808 : Int) ≤ (23 : Int) ∧ ρ 0 ≤ 9223372036854775807 ∧ _
  refine ⟨by omega, by omega, by omega, fun v h1 h2 => ?_⟩
  have h1 : (23 : Int) ≤ v := h1
  have h2 : v < ρ 0 := h2
  refine ⟨fun i l u e => ?_, fun x hx => ?_⟩
  · match i, e with
    | 0, e => exact hr 0 l u e
    | 1, e => exact hr 1 l u e
    | 2, e => exact hr 2 l u e
    | 3, e => cases e; exact ⟨by show (23 : Int) ≤ v; omega, by show v ≤ (299 : Int); omega⟩
    | i + 4, e => cases e
  · have hx : x ∈ ([((.cmp .lss (.var 3) (.var 0)), true)] : List (SB × Bool)) := hx
    simp only [List.mem_cons, List.not_mem_nil, or_false] at hx
    subst hx
    show decide (updL ρ 3 v 3 < updL ρ 3 v 0) = true
    rw [show updL ρ 3 v 3 = v from rfl, show updL ρ 3 v 0 = ρ 0 from rfl]
    simp only [decide_eq_true_eq]
    omega
theorem plansM23_ok : PlansOk Tryz.prog plansM23 := plansOk_ac plans_ok rfl (fun a ha => by
  have ha : a ∈ [accM23] := ha
  simp only [List.mem_cons, List.not_mem_nil, or_false] at ha
  subst ha
  exact accM23_ok)
theorem accM24_ok : AccOk accM24 := by
  intro ρ hr
  have h0 : (25 : Int) ≤ ρ 0 ∧ ρ 0 ≤ (300 : Int) := hr 0 _ _ rfl
  show (24 : Int) ≤ ρ 0 ∧ (-9223372036854775808 : Int) ≤ (24 : Int) ∧ ρ 0 ≤ 9223372036854775807 ∧ _
  refine ⟨by omega, by omega, by omega, fun v h1 h2 => ?_⟩
  have h1 : (24 : Int) ≤ v := h1
  have h2 : v < ρ 0 := h2
  refine ⟨fun i l u e => ?_, fun x hx => ?_⟩
  · match i, e with
    | 0, e => exact hr 0 l u e
    | 1, e => exact hr 1 l u e
    | 2, e => exact hr 2 l u e
    | 3, e => cases e; exact ⟨by show (24 : Int) ≤ v; omega, by show v ≤ (299 : Int); omega⟩
    | i + 4, e => cases e
  · have hx : x ∈ ([((.cmp .lss (.var 3) (.var 0)), true)] : List (SB × Bool)) := hx
    simp only [List.mem_cons, List.not_mem_nil, or_false] at hx
    subst hx
    show decide (updL ρ 3 v 3 < updL ρ 3 v 0) = true
    rw [show updL ρ 3 v 3 = v from rfl, show updL ρ 3 v 0 = ρ 0 from rfl]
    simp only [decide_eq_true_eq]
    omega
theorem plansM24_ok : PlansOk Tryz.prog plansM24 := plansOk_ac plans_ok rfl (fun a ha => by
  have ha : a ∈ [accM24] := ha
  simp only [List.mem_cons, List.not_mem_nil, or_false] at ha
  subst ha
  exact accM24_ok)
theorem accM25_ok : AccOk accM25 := by
  intro ρ hr
  have h0 : (26 : Int) ≤ ρ 0 ∧ ρ 0 ≤ (300 : Int) := hr 0 _ _ rfl
  show (25 : Int) ≤ ρ 0 ∧ (-9223372036854775808 : Int) ≤ (25 : Int) ∧ ρ 0 ≤ 9223372036854775807 ∧ _
  refine ⟨by omega, by omega, by omega, fun v h1 h2 => ?_⟩
  have h1 : (25 : Int) ≤ v := h1
  have h2 : v < ρ 0 := h2
  refine ⟨fun i l u e => ?_, fun x hx => ?_⟩
  · match i, e with
    | 0, e => exact hr 0 l u e
    | 1, e => exact hr 1 l u e
    | 2, e => exact hr 2 l u e
    | 3, e => cases e; exact ⟨by show (25 : Int) ≤ v; omega, by show v ≤ (299 : Int); omega⟩
    | i + 4, e => cases e
  · have hx : x ∈ ([((.cmp .lss (.var 3) (.var 0)), true)] : List (SB × Bool)) := hx
    simp only [List.mem_cons, List.not_mem_nil, or_false] at hx
    subst hx
    show decide (updL ρ 3 v 3 < updL ρ 3 v 0) = true
    rw [show updL ρ 3 v 3 = v from rfl, show updL ρ 3 v 0 = ρ 0 from rfl]
    simp only [decide_eq_true_eq]
    omega
theorem plansM25_ok : PlansOk Tryz.prog plansM25 := plansOk_ac plans_ok rfl (fun a ha => by
  have ha : a ∈ [accM25] := ha
  simp only [List.mem_cons, List.not_mem_nil, or_false] at ha
  subst ha
  exact accM25_ok)
theorem accM26_ok : AccOk accM26 := by
  intro ρ hr
  have h0 : (27 : Int) ≤ ρ 0 ∧ ρ 0 ≤ (300 : Int) := hr 0 _ _ rfl
  show (26 : Int) ≤ ρ 0 ∧ (-9223372036854775808 : Int) ≤ (26 : Int) ∧ ρ 0 ≤ 9223372036854775807 ∧ _
  refine ⟨by omega, by omega, by omega, fun v h1 h2 => ?_⟩
  have h1 : (26 : Int) ≤ v := h1
  have h2 : v < ρ 0 := h2
  refine ⟨fun i l u e => ?_, fun x hx => ?_⟩
  · match i, e with
    | 0, e => exact hr 0 l u e
    | 1, e => exact hr 1 l u e
    | 2, e => exact hr 2 l u e
    | 3, e => cases e; exact ⟨by show (26 : Int) ≤ v; omega, by show v ≤ (299 : Int); omega⟩
    | i + 4, e => cases e
  · have hx : x ∈ ([((.cmp .lss (.var 3) (.var 0)), true)] : List (SB × Bool)) := hx
    simp only [List.mem_cons, List.not_mem_nil, or_false] at hx
    subst hx
    show decide (updL ρ 3 v 3 < updL ρ 3 v 0) = true
    rw [show updL ρ 3 v 3 = v from rfl, show updL ρ 3 v 0 = ρ 0 from rfl]
    simp only [decide_eq_true_eq]
    omega
theorem plansM26_ok : PlansOk Tryz.prog plansM26 := plansOk_ac plans_ok rfl (fun a ha => by
  have ha : a ∈ [accM26] := ha
  simp only [List.mem_cons, List.not_mem_nil, or_false] at ha
  subst ha
  exact accM26_ok)
theorem accM27_ok : AccOk accM27 := by
  intro ρ hr
  have h0 : (28 : Int) ≤ ρ 0 ∧ ρ 0 ≤ (300 : Int) := hr 0 _ _ rfl
  show (27 : Int) ≤ ρ 0 ∧ (-9223372036854775808 : Int) ≤ (27 : Int) ∧ ρ 0 ≤ 9223372036854775807 ∧ _
  refine ⟨by omega, by omega, by omega, fun v h1 h2 => ?_⟩
  have h1 : (27 : Int) ≤ v := h1
  have h2 : v < ρ 0 := h2
  refine ⟨fun i l u e => ?_, fun x hx => ?_⟩
  · match i, e with
    | 0, e => exact hr 0 l u e
    | 1, e => exact hr 1 l u e
    | 2, e => exact hr 2 l u e
    | 3, e => cases e; exact ⟨by show (27 : Int) ≤ v; omega, by show v ≤ (299 : Int); omega⟩
    | i + 4, e => cases e
  · have hx : x ∈ ([((.cmp .lss (.var 3) (.var 0)), true)] : List (SB × Bool)) := hx
    simp only [List.mem_cons, List.not_mem_nil, or_false] at hx
    subst hx
    show decide (updL ρ 3 v 3 < updL ρ 3 v 0) = true
    rw [show updL ρ 3 v 3 = v from rfl, show updL ρ 3 v 0 = ρ 0 from rfl]
    simp only [decide_eq_true_eq]
    omega
theorem plansM27_ok : PlansOk Tryz.prog plansM27 := plansOk_ac plans_ok rfl (fun a ha => by
  have ha : a ∈ [accM27] := ha
  simp only [List.mem_cons, List.not_mem_nil, or_false] at ha
  subst ha
  exact accM27_ok)
theorem accM28_ok : AccOk accM28 := by
  intro ρ hr
  have h0 : (29 : Int) ≤ ρ 0 ∧ ρ 0 ≤ (300 : Int) := hr 0 _ _ rfl
  show (28 : Int) ≤ ρ 0 ∧ (-9223372036854775808 : Int) ≤ (28 : Int) ∧ ρ 0 ≤ 9223372036854775807 ∧ _
  refine ⟨by omega, by omega, by omega, fun v h1 h2 => ?_⟩
  have h1 : (28 : Int) ≤ v := h1
  have h2 : v < ρ 0 := h2
  refine ⟨fun i l u e => ?_, fun x hx => ?_⟩
  · match i, e with
    | 0, e => exact hr 0 l u e
    | 1, e => exact hr 1 l u e
    | 2, e => exact hr 2 l u e
    | 3, e => cases e; exact ⟨by show (28 : Int) ≤ v; omega, by show v ≤ (299 : Int); omega⟩
    | i + 4, e => cases e
  · have hx : x ∈ ([((.cmp .lss (.var 3) (.var 0)), true)] : List (SB × Bool)) := hx
    simp only [List.mem_cons, List.not_mem_nil, or_false] at hx
    subst hx
    show decide (updL ρ 3 v 3 < updL ρ 3 v 0) = true
    rw [show updL ρ 3 v 3 = v from rfl, show updL ρ 3 v 0 = ρ 0 from rfl]
    simp only [decide_eq_true_eq]
    omega
theorem plansM28_ok : PlansOk Tryz.prog plansM28 := plansOk_ac plans_ok rfl (fun a ha => by
  have ha : a ∈ [accM28] := ha
  simp only [List.mem_cons, List.not_mem_nil, or_false] at ha
  subst ha
  exact accM28_ok)
theorem accM29_ok : AccOk accM29 := by
  intro ρ hr
  have h0 : (30 : Int) ≤ ρ 0 ∧ ρ 0 ≤ (300 : Int) := hr 0 _ _ rfl
  show (29 : Int) ≤ ρ 0 ∧ (-9223372036854775808 : Int) ≤ (29 : Int) ∧ ρ 0 ≤ 9223372036854775807 ∧ _
  refine ⟨by omega, by omega, by omega, fun v h1 h2 => ?_⟩
  have h1 : (29 : Int) ≤ v := h1
  have h2 : v < ρ 0 := h2
  refine ⟨fun i l u e => ?_, fun x hx => ?_⟩
  · match i, e with
    | 0, e => exact hr 0 l u e
    | 1, e => exact hr 1 l u e
    | 2, e => exact hr 2 l u e
    | 3, e => cases e; exact ⟨by show (29 : Int) ≤ v; omega, by show v ≤ (299 : Int); omega⟩
    | i + 4, e => cases e
  · have hx : x ∈ ([((.cmp .lss (.var 3) (.var 0)), true)] : List (SB × Bool)) := hx
    simp only [List.mem_cons, List.not_mem_nil, or_false] at hx
    subst hx
    show decide (updL ρ 3 v 3 < updL ρ 3 v 0) = true
    rw [show updL ρ 3 v 3 = v from rfl, show updL ρ 3 v 0 = ρ 0 from rfl]
    simp only [decide_eq_true_eq]
    omega
theorem plansM29_ok : PlansOk Tryz.prog plansM29 := plansOk_ac plans_ok rfl (fun a ha => by
  have ha : a ∈ [accM29] := ha
  simp only [List.mem_cons, List.not_mem_nil, or_false] at ha
  subst ha
  exact accM29_ok)
theorem accM30_ok : AccOk accM30 := by
  intro ρ hr
  have h0 : (31 : Int) ≤ ρ 0 ∧ ρ 0 ≤ (300 : Int) := hr 0 _ _ rfl
  show (30 : Int) ≤ ρ 0 ∧ (-9223372036854775808 : Int) ≤ (30 : Int) ∧ ρ 0 ≤ 9223372036854775807 ∧ _
  refine ⟨by omega, by omega, by omega, fun v h1 h2 => ?_⟩
  have h1 : (30 : Int) ≤ v := h1
  have h2 : v < ρ 0 := h2
  refine ⟨fun i l u e => ?_, fun x hx => ?_⟩
  · match i, e with
    | 0, e => exact hr 0 l u e
    | 1, e => exact hr 1 l u e
    | 2, e => exact hr 2 l u e
    | 3, e => cases e; exact ⟨by show (30 : Int) ≤ v; omega, by show v ≤ (299 : Int); omega⟩
    | i + 4, e => cases e
  · have hx : x ∈ ([((.cmp .lss (.var 3) (.var 0)), true)] : List (SB × Bool)) := hx
    simp only [List.mem_cons, List.not_mem_nil, or_false] at hx
    subst hx
    show decide (updL ρ 3 v 3 < updL ρ 3 v 0) = true
    rw [show updL ρ 3 v 3 = v from rfl, show updL ρ 3 v 0 = ρ 0 from rfl]
    simp only [decide_eq_true_eq]
    omega
theorem plansM30_ok : PlansOk Tryz.prog plansM30 := plansOk_ac plans_ok rfl (fun a ha => by
  have ha : a ∈ [accM30] := ha
  simp only [List.mem_cons, List.not_mem_nil, or_false] at ha
  subst ha
  exact accM30_ok)
theorem accM31_ok : AccOk accM31 := by
  intro ρ hr
  have h0 : (32 : Int) ≤ ρ 0 ∧ ρ 0 ≤ (300 : Int) := hr 0 _ _ rfl
  show (31 : Int) ≤ ρ 0 ∧ (-9223372036854775808 : Int) ≤ (31 : Int) ∧ ρ 0 ≤ 9223372036854775807 ∧ _
  refine ⟨by omega, by omega, by omega, fun v h1 h2 => ?_⟩
  have h1 : (31 : Int) ≤ v := h1
  have h2 : v < ρ 0 := h2
  refine ⟨fun i l u e => ?_, fun x hx => ?_⟩
  · match i, e with
    | 0, e => exact hr 0 l u e
    | 1, e => exact hr 1 l u e
    | 2, e => exact hr 2 l u e
    | 3, e => cases e; exact ⟨by show (31 : Int) ≤ v; omega, by show v ≤ (299 : Int); omega⟩
    | i + 4, e => cases e
  · have hx : x ∈ ([((.cmp .lss (.var 3) (.var 0)), true)] : List (SB × Bool)) := hx
    simp only [List.mem_cons, List.not_mem_nil, or_false] at hx
    subst hx
    show decide (updL ρ 3 v 3 < updL ρ 3 v 0) = true
    rw [show updL ρ 3 v 3 = v from rfl, show updL ρ 3 v 0 = ρ 0 from rfl]
    simp only [decide_eq_true_eq]
    omega
theorem plansM31_ok : PlansOk Tryz.prog plansM31 := plansOk_ac plans_ok rfl (fun a ha => by
  have ha : a ∈ [accM31] := ha
  simp only [List.mem_cons, List.not_mem_nil, or_false] at ha
  subst ha
  exact accM31_ok)
theorem accM32_ok : AccOk accM32 := by
  intro ρ hr
  have h0 : (33 : Int) ≤ ρ 0 ∧ ρ 0 ≤ (300 : Int) := hr 0 _ _ rfl
  show (32 : Int) ≤ ρ 0 ∧ (-9223372036854775808 : Int) ≤ (32 : Int) ∧ ρ 0 ≤ 9223372036854775807 ∧ _
  refine ⟨by omega, by omega, by omega, fun v h1 h2 => ?_⟩
  have h1 : (32 : Int) ≤ v := h1
  have h2 : v < ρ 0 := h2
  refine ⟨fun i l u e => ?_, fun x hx => ?_⟩
  · match i, e with
    | 0, e => exact hr 0 l u e
    | 1, e => exact hr 1 l u e
    | 2, e => exact hr 2 l u e
    | 3, e => cases e; exact ⟨by show (32 : Int) ≤ v; omega, by show v ≤ (299 : Int); omega⟩
    | i + 4, e => cases e
  · have hx : x ∈ ([((.cmp .lss (.var 3) (.var 0)), true)] : List (SB × Bool)) := hx
    simp only [List.mem_cons, List.not_mem_nil, or_false] at hx
    subst hx
    show decide (updL ρ 3 v 3 < updL ρ 3 v 0) = true
    rw [show updL ρ 3 v 3 = v from rfl, show updL ρ 3 v 0 = ρ 0 from rfl]
    simp only [decide_eq_true_eq]
    omega
theorem plansM32_ok : PlansOk Tryz.prog plansM32 := plansOk_ac plans_ok rfl (fun a ha => by
  have ha : a ∈ [accM32] := ha
  simp only [List.mem_cons, List.not_mem_nil, or_false] at ha
  subst ha
  exact accM32_ok)

end Go.Proofs.YtlmpmmcefdhgmaaGreat

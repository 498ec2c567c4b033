/-
  Those rounds do so.
-/
import Derived.Test.YtggoagemdhflfaaGreatAccR
import Derived.Test.YtggoagemdhflfaaGreatPlsOk
set_option linter.unusedVariables false
set_option linter.unusedSimpArgs false
namespace Go.Proofs.YtggoagemdhflfaaGreat
open Go

theorem accR1_ok : AccOk accR1 := by
  intro ρ hr
  have h0 : (65 : Int) ≤ ρ 0 ∧ ρ 0 ≤ (100 : Int) := hr 0 _ _ rfl
  show (64 : Int) ≤ ρ 0 ∧ (-9223372036854775808 : Int) ≤ (64 : Int) ∧ ρ 0 ≤ 9223372036854775807 ∧ _
  refine ⟨by omega, by omega, by omega, fun v h1 h2 => ?_⟩
  have h1 : (64 : Int) ≤ v := h1
  have h2 : v < ρ 0 := h2
  refine ⟨fun i l u e => ?_, fun x hx => ?_⟩
  · match i, e with
    | 0, e => exact hr 0 l u e
    | 1, e => exact hr 1 l u e
    | 2, e => cases e; exact ⟨by show (64 : Int) ≤ v; omega, by show v ≤ (99 : Int); omega⟩
    | i + 3, e => cases e
  · have hx : x ∈ ([((.cmp .lss (.var 2) (.var 0)), true)] : List (SB × Bool)) := hx
    simp only [List.mem_cons, List.not_mem_nil, or_false] at hx
    subst hx
    show decide (updL ρ 2 v 2 < updL ρ 2 v 0) = true
    rw [show updL ρ 2 v 2 = v from rfl, show updL ρ 2 v 0 = ρ 0 from rfl]
    simp only [decide_eq_true_eq]
    omega
theorem plansR1_ok : PlansOk Tryz.prog plansR1 := plansOk_ac plans_ok rfl (fun a ha => by
  have ha : a ∈ [accR1] := ha
  simp only [List.mem_cons, List.not_mem_nil, or_false] at ha
  subst ha
  exact accR1_ok)
theorem accR2_ok : AccOk accR2 := by
  intro ρ hr
  have h0 : (65 : Int) ≤ ρ 0 ∧ ρ 0 ≤ (100 : Int) := hr 0 _ _ rfl
  show (64 : Int) ≤ ρ 0 ∧ (-9223372036854775808 : Int) ≤ (64 : Int) ∧ ρ 0 ≤ 9223372036854775807 ∧ _
  refine ⟨by omega, by omega, by omega, fun v h1 h2 => ?_⟩
  have h1 : (64 : Int) ≤ v := h1
  have h2 : v < ρ 0 := h2
  refine ⟨fun i l u e => ?_, fun x hx => ?_⟩
  · match i, e with
    | 0, e => exact hr 0 l u e
    | 1, e => exact hr 1 l u e
    | 2, e => cases e; exact ⟨by show (64 : Int) ≤ v; omega, by show v ≤ (99 : Int); omega⟩
    | i + 3, e => cases e
  · have hx : x ∈ ([((.cmp .lss (.var 2) (.var 0)), true)] : List (SB × Bool)) := hx
    simp only [List.mem_cons, List.not_mem_nil, or_false] at hx
    subst hx
    show decide (updL ρ 2 v 2 < updL ρ 2 v 0) = true
    rw [show updL ρ 2 v 2 = v from rfl, show updL ρ 2 v 0 = ρ 0 from rfl]
    simp only [decide_eq_true_eq]
    omega
theorem plansR2_ok : PlansOk Tryz.prog plansR2 := plansOk_ac plans_ok rfl (fun a ha => by
  have ha : a ∈ [accR2] := ha
  simp only [List.mem_cons, List.not_mem_nil, or_false] at ha
  subst ha
  exact accR2_ok)
theorem accR3_ok : AccOk accR3 := by
  intro ρ hr
  have h0 : (65 : Int) ≤ ρ 0 ∧ ρ 0 ≤ (100 : Int) := hr 0 _ _ rfl
  show (64 : Int) ≤ ρ 0 ∧ (-9223372036854775808 : Int) ≤ (64 : Int) ∧ ρ 0 ≤ 9223372036854775807 ∧ _
  refine ⟨by omega, by omega, by omega, fun v h1 h2 => ?_⟩
  have h1 : (64 : Int) ≤ v := h1
  have h2 : v < ρ 0 := h2
  refine ⟨fun i l u e => ?_, fun x hx => ?_⟩
  · match i, e with
    | 0, e => exact hr 0 l u e
    | 1, e => exact hr 1 l u e
    | 2, e => cases e; exact ⟨by show (64 : Int) ≤ v; omega, by show v ≤ (99 : Int); omega⟩
    | i + 3, e => cases e
  · have hx : x ∈ ([((.cmp .lss (.var 2) (.var 0)), true)] : List (SB × Bool)) := hx
    simp only [List.mem_cons, List.not_mem_nil, or_false] at hx
    subst hx
    show decide (updL ρ 2 v 2 < updL ρ 2 v 0) = true
    rw [show updL ρ 2 v 2 = v from rfl, show updL ρ 2 v 0 = ρ 0 from rfl]
    simp only [decide_eq_true_eq]
    omega
theorem plansR3_ok : PlansOk Tryz.prog plansR3 := plansOk_ac plans_ok rfl (fun a ha => by
  have ha : a ∈ [accR3] := ha
  simp only [List.mem_cons, List.not_mem_nil, or_false] at ha
  subst ha
  exact accR3_ok)

end Go.Proofs.YtggoagemdhflfaaGreat

/-
  It is proved that a listener that is taken away takes its new-born connections along, with a Rst to each peer; those that were accepted stay (wharflaw18.HubDeaf). No condition.
-/
import Derived.Test.YtlmpmmcefdhgmaaGreatRows
import Derived.WalkKit
import Derived.ProofKit
import Derived.OpenShut
import Derived.Below
import Derived.Test.YtlmpmmcefdhgmaaGreatPaHubDeafQ0
import Derived.Test.YtlmpmmcefdhgmaaGreatPaHubDeafQ1
import Derived.Test.YtlmpmmcefdhgmaaGreatPaHubDeafQ2
import Derived.Test.YtlmpmmcefdhgmaaGreatPaHubDeafQ3
import Derived.Test.YtlmpmmcefdhgmaaGreatPaHubDeafQ4
import Derived.Test.YtlmpmmcefdhgmaaGreatPaHubDeafQ5
import Derived.Test.YtlmpmmcefdhgmaaGreatPaHubDeafQ6
import Derived.Test.YtlmpmmcefdhgmaaGreatPaHubDeafQ7
import Derived.Test.YtlmpmmcefdhgmaaGreatJfHubDeaf
namespace Go.Proofs.YtlmpmmcefdhgmaaGreat.hubDeaf
open Go.ChangeShapes Go.WideShapes Go.ChangeAt Go.RowKit
open Go
set_option linter.unusedVariables false
set_option linter.unusedSimpArgs false

theorem own : ownKnob Tryz.prog.godebug = none := by kernel_rfl
section
variable {P : Program} {w : World} {r : Reach} {base : Nat} {t : TypeId} {v : Value}
theorem cell_int {k : IntKind} (ht : P.underlying t = some (.int k)) (h : Cell.okWide P w r base t v) : ∃ n, v = .int k n ∧ k.min ≤ n ∧ n ≤ k.max := by
  simp only [Cell.okWide, ht] at h
  cases v <;> simp_all [Cell.ok, IntKind.has]
theorem cell_bool (ht : P.underlying t = some .bool) (h : Cell.okWide P w r base t v) : ∃ b, v = .bool b := by
  simp only [Cell.okWide, ht] at h
  cases v <;> simp_all [Cell.ok]
theorem cell_slice {e : TypeId} (ht : P.underlying t = some (.slice e)) (h : Cell.okWide P w r base t v) : ∃ a n c, v = .slice a n c ∧ (n : Int) ≤ 9223372036854775807 := by
  simp only [Cell.okWide, ht] at h
  have hmax : IntKind.i64.max = 9223372036854775807 := by decide
  cases v with
  | slice a n c =>
    refine ⟨a, n, c, rfl, ?_⟩
    cases a with
    | none =>
      cases n with
      | zero => omega
      | succ n => simp [Cell.ok, ht] at h
    | some a =>
      simp only [Cell.ok, ht] at h
      rw [hmax] at h
      omega
  | _ => simp_all [Cell.ok]
end
theorem in_i64 {n : Int} (h : IntKind.i64.min ≤ n ∧ n ≤ IntKind.i64.max) : (-9223372036854775808) ≤ n ∧ n ≤ 9223372036854775807 := by
  rw [show IntKind.i64.min = (-9223372036854775808) by decide, show IntKind.i64.max = 9223372036854775807 by decide] at h
  exact h
set_option maxRecDepth 100000 in
theorem open_int {W : World} {base : Nat} {v : Value} (h : Value.okWide Tryz.prog W .any base 3 v) : ∃ (a0 : Int), v = .int .i64 a0 ∧ ((-9223372036854775808) ≤ a0 ∧ a0 ≤ 9223372036854775807) := by
    simp only [Value.okWide, Tryz.underlying3] at h
    obtain ⟨a0, rfl, h0⟩ := cell_int Tryz.underlying3 h
    have h0 := in_i64 h0
    exact ⟨_, rfl, h0⟩

theorem walk (a0 : Int) (h0 : ((-9223372036854775808) ≤ a0 ∧ a0 ≤ 9223372036854775807)) (a1 : Int) (h1 : ((-9223372036854775808) ≤ a1 ∧ a1 ≤ 9223372036854775807)) (w : World) : Calls Tryz.prog 6 #[.int .i64 a0, .int .i64 a1] w fun e w' => e = .returned (.bool true) ∧ Kp [] w w' := by
  rcases (by omega : a0 ≤ -1 ∨ 21 ≤ a0 ∨ (0 ≤ a0 ∧ a0 ≤ 20)) with q | q | q
  · exact pL_any a0 ⟨by omega, by omega⟩ a1 ⟨by omega, by omega⟩ w
  · exact pH_any a0 ⟨by omega, by omega⟩ a1 ⟨by omega, by omega⟩ w
  rcases (by omega : a1 ≤ -1 ∨ 21 ≤ a1 ∨ (0 ≤ a1 ∧ a1 ≤ 20)) with r | r | r
  · exact pKL_any a0 ⟨by omega, by omega⟩ a1 ⟨by omega, by omega⟩ w
  · exact pKH_any a0 ⟨by omega, by omega⟩ a1 ⟨by omega, by omega⟩ w
  rcases (by omega : a1 = 0 ∨ a1 = 1 ∨ a1 = 2 ∨ a1 = 3 ∨ a1 = 4 ∨ a1 = 5 ∨ a1 = 6 ∨ a1 = 7 ∨ a1 = 8 ∨ a1 = 9 ∨ a1 = 10 ∨ a1 = 11 ∨ a1 = 12 ∨ a1 = 13 ∨ a1 = 14 ∨ a1 = 15 ∨ a1 = 16 ∨ a1 = 17 ∨ a1 = 18 ∨ a1 = 19 ∨ a1 = 20) with s | s | s | s | s | s | s | s | s | s | s | s | s | s | s | s | s | s | s | s | s
  · rcases (by omega : a0 = 0 ∨ a0 = 1 ∨ a0 = 2 ∨ a0 = 3 ∨ a0 = 4 ∨ a0 = 5 ∨ a0 = 6 ∨ a0 = 7 ∨ a0 = 8 ∨ a0 = 9 ∨ a0 = 10 ∨ a0 = 11 ∨ a0 = 12 ∨ a0 = 13 ∨ a0 = 14 ∨ a0 = 15 ∨ a0 = 16 ∨ a0 = 17 ∨ a0 = 18 ∨ a0 = 19 ∨ a0 = 20) with t | t | t | t | t | t | t | t | t | t | t | t | t | t | t | t | t | t | t | t | t
    · exact pN0x0_any a0 ⟨by omega, by omega⟩ a1 ⟨by omega, by omega⟩ w
    · exact pN1x0_any a0 ⟨by omega, by omega⟩ a1 ⟨by omega, by omega⟩ w
    · exact pN2x0_any a0 ⟨by omega, by omega⟩ a1 ⟨by omega, by omega⟩ w
    · exact pN3x0_any a0 ⟨by omega, by omega⟩ a1 ⟨by omega, by omega⟩ w
    · exact pN4x0_any a0 ⟨by omega, by omega⟩ a1 ⟨by omega, by omega⟩ w
    · exact pN5x0_any a0 ⟨by omega, by omega⟩ a1 ⟨by omega, by omega⟩ w
    · exact pN6x0_any a0 ⟨by omega, by omega⟩ a1 ⟨by omega, by omega⟩ w
    · exact pN7x0_any a0 ⟨by omega, by omega⟩ a1 ⟨by omega, by omega⟩ w
    · exact pN8x0_any a0 ⟨by omega, by omega⟩ a1 ⟨by omega, by omega⟩ w
    · exact pN9x0_any a0 ⟨by omega, by omega⟩ a1 ⟨by omega, by omega⟩ w
    · exact pN10x0_any a0 ⟨by omega, by omega⟩ a1 ⟨by omega, by omega⟩ w
    · exact pN11x0_any a0 ⟨by omega, by omega⟩ a1 ⟨by omega, by omega⟩ w
    · exact pN12x0_any a0 ⟨by omega, by omega⟩ a1 ⟨by omega, by omega⟩ w
    · exact pN13x0_any a0 ⟨by omega, by omega⟩ a1 ⟨by omega, by omega⟩ w
    · exact pN14x0_any a0 ⟨by omega, by omega⟩ a1 ⟨by omega, by omega⟩ w
    · exact pN15x0_any a0 ⟨by omega, by omega⟩ a1 ⟨by omega, by omega⟩ w
    · exact pN16x0_any a0 ⟨by omega, by omega⟩ a1 ⟨by omega, by omega⟩ w
    · exact pN17x0_any a0 ⟨by omega, by omega⟩ a1 ⟨by omega, by omega⟩ w
    · exact pN18x0_any a0 ⟨by omega, by omega⟩ a1 ⟨by omega, by omega⟩ w
    · exact pN19x0_any a0 ⟨by omega, by omega⟩ a1 ⟨by omega, by omega⟩ w
    · exact pN20x0_any a0 ⟨by omega, by omega⟩ a1 ⟨by omega, by omega⟩ w
  · rcases (by omega : a0 < 1 ∨ a0 = 1 ∨ a0 = 2 ∨ a0 = 3 ∨ a0 = 4 ∨ a0 = 5 ∨ a0 = 6 ∨ a0 = 7 ∨ a0 = 8 ∨ a0 = 9 ∨ a0 = 10 ∨ a0 = 11 ∨ a0 = 12 ∨ a0 = 13 ∨ a0 = 14 ∨ a0 = 15 ∨ a0 = 16 ∨ a0 = 17 ∨ a0 = 18 ∨ a0 = 19 ∨ a0 = 20) with t | t | t | t | t | t | t | t | t | t | t | t | t | t | t | t | t | t | t | t | t
    · exact pK1_any a0 ⟨by omega, by omega⟩ a1 ⟨by omega, by omega⟩ w
    · exact pN1x1_any a0 ⟨by omega, by omega⟩ a1 ⟨by omega, by omega⟩ w
    · exact pN2x1_any a0 ⟨by omega, by omega⟩ a1 ⟨by omega, by omega⟩ w
    · exact pN3x1_any a0 ⟨by omega, by omega⟩ a1 ⟨by omega, by omega⟩ w
    · exact pN4x1_any a0 ⟨by omega, by omega⟩ a1 ⟨by omega, by omega⟩ w
    · exact pN5x1_any a0 ⟨by omega, by omega⟩ a1 ⟨by omega, by omega⟩ w
    · exact pN6x1_any a0 ⟨by omega, by omega⟩ a1 ⟨by omega, by omega⟩ w
    · exact pN7x1_any a0 ⟨by omega, by omega⟩ a1 ⟨by omega, by omega⟩ w
    · exact pN8x1_any a0 ⟨by omega, by omega⟩ a1 ⟨by omega, by omega⟩ w
    · exact pN9x1_any a0 ⟨by omega, by omega⟩ a1 ⟨by omega, by omega⟩ w
    · exact pN10x1_any a0 ⟨by omega, by omega⟩ a1 ⟨by omega, by omega⟩ w
    · exact pN11x1_any a0 ⟨by omega, by omega⟩ a1 ⟨by omega, by omega⟩ w
    · exact pN12x1_any a0 ⟨by omega, by omega⟩ a1 ⟨by omega, by omega⟩ w
    · exact pN13x1_any a0 ⟨by omega, by omega⟩ a1 ⟨by omega, by omega⟩ w
    · exact pN14x1_any a0 ⟨by omega, by omega⟩ a1 ⟨by omega, by omega⟩ w
    · exact pN15x1_any a0 ⟨by omega, by omega⟩ a1 ⟨by omega, by omega⟩ w
    · exact pN16x1_any a0 ⟨by omega, by omega⟩ a1 ⟨by omega, by omega⟩ w
    · exact pN17x1_any a0 ⟨by omega, by omega⟩ a1 ⟨by omega, by omega⟩ w
    · exact pN18x1_any a0 ⟨by omega, by omega⟩ a1 ⟨by omega, by omega⟩ w
    · exact pN19x1_any a0 ⟨by omega, by omega⟩ a1 ⟨by omega, by omega⟩ w
    · exact pN20x1_any a0 ⟨by omega, by omega⟩ a1 ⟨by omega, by omega⟩ w
  · rcases (by omega : a0 < 2 ∨ a0 = 2 ∨ a0 = 3 ∨ a0 = 4 ∨ a0 = 5 ∨ a0 = 6 ∨ a0 = 7 ∨ a0 = 8 ∨ a0 = 9 ∨ a0 = 10 ∨ a0 = 11 ∨ a0 = 12 ∨ a0 = 13 ∨ a0 = 14 ∨ a0 = 15 ∨ a0 = 16 ∨ a0 = 17 ∨ a0 = 18 ∨ a0 = 19 ∨ a0 = 20) with t | t | t | t | t | t | t | t | t | t | t | t | t | t | t | t | t | t | t | t
    · exact pK2_any a0 ⟨by omega, by omega⟩ a1 ⟨by omega, by omega⟩ w
    · exact pN2x2_any a0 ⟨by omega, by omega⟩ a1 ⟨by omega, by omega⟩ w
    · exact pN3x2_any a0 ⟨by omega, by omega⟩ a1 ⟨by omega, by omega⟩ w
    · exact pN4x2_any a0 ⟨by omega, by omega⟩ a1 ⟨by omega, by omega⟩ w
    · exact pN5x2_any a0 ⟨by omega, by omega⟩ a1 ⟨by omega, by omega⟩ w
    · exact pN6x2_any a0 ⟨by omega, by omega⟩ a1 ⟨by omega, by omega⟩ w
    · exact pN7x2_any a0 ⟨by omega, by omega⟩ a1 ⟨by omega, by omega⟩ w
    · exact pN8x2_any a0 ⟨by omega, by omega⟩ a1 ⟨by omega, by omega⟩ w
    · exact pN9x2_any a0 ⟨by omega, by omega⟩ a1 ⟨by omega, by omega⟩ w
    · exact pN10x2_any a0 ⟨by omega, by omega⟩ a1 ⟨by omega, by omega⟩ w
    · exact pN11x2_any a0 ⟨by omega, by omega⟩ a1 ⟨by omega, by omega⟩ w
    · exact pN12x2_any a0 ⟨by omega, by omega⟩ a1 ⟨by omega, by omega⟩ w
    · exact pN13x2_any a0 ⟨by omega, by omega⟩ a1 ⟨by omega, by omega⟩ w
    · exact pN14x2_any a0 ⟨by omega, by omega⟩ a1 ⟨by omega, by omega⟩ w
    · exact pN15x2_any a0 ⟨by omega, by omega⟩ a1 ⟨by omega, by omega⟩ w
    · exact pN16x2_any a0 ⟨by omega, by omega⟩ a1 ⟨by omega, by omega⟩ w
    · exact pN17x2_any a0 ⟨by omega, by omega⟩ a1 ⟨by omega, by omega⟩ w
    · exact pN18x2_any a0 ⟨by omega, by omega⟩ a1 ⟨by omega, by omega⟩ w
    · exact pN19x2_any a0 ⟨by omega, by omega⟩ a1 ⟨by omega, by omega⟩ w
    · exact pN20x2_any a0 ⟨by omega, by omega⟩ a1 ⟨by omega, by omega⟩ w
  · rcases (by omega : a0 < 3 ∨ a0 = 3 ∨ a0 = 4 ∨ a0 = 5 ∨ a0 = 6 ∨ a0 = 7 ∨ a0 = 8 ∨ a0 = 9 ∨ a0 = 10 ∨ a0 = 11 ∨ a0 = 12 ∨ a0 = 13 ∨ a0 = 14 ∨ a0 = 15 ∨ a0 = 16 ∨ a0 = 17 ∨ a0 = 18 ∨ a0 = 19 ∨ a0 = 20) with t | t | t | t | t | t | t | t | t | t | t | t | t | t | t | t | t | t | t
    · exact pK3_any a0 ⟨by omega, by omega⟩ a1 ⟨by omega, by omega⟩ w
    · exact pN3x3_any a0 ⟨by omega, by omega⟩ a1 ⟨by omega, by omega⟩ w
    · exact pN4x3_any a0 ⟨by omega, by omega⟩ a1 ⟨by omega, by omega⟩ w
    · exact pN5x3_any a0 ⟨by omega, by omega⟩ a1 ⟨by omega, by omega⟩ w
    · exact pN6x3_any a0 ⟨by omega, by omega⟩ a1 ⟨by omega, by omega⟩ w
    · exact pN7x3_any a0 ⟨by omega, by omega⟩ a1 ⟨by omega, by omega⟩ w
    · exact pN8x3_any a0 ⟨by omega, by omega⟩ a1 ⟨by omega, by omega⟩ w
    · exact pN9x3_any a0 ⟨by omega, by omega⟩ a1 ⟨by omega, by omega⟩ w
    · exact pN10x3_any a0 ⟨by omega, by omega⟩ a1 ⟨by omega, by omega⟩ w
    · exact pN11x3_any a0 ⟨by omega, by omega⟩ a1 ⟨by omega, by omega⟩ w
    · exact pN12x3_any a0 ⟨by omega, by omega⟩ a1 ⟨by omega, by omega⟩ w
    · exact pN13x3_any a0 ⟨by omega, by omega⟩ a1 ⟨by omega, by omega⟩ w
    · exact pN14x3_any a0 ⟨by omega, by omega⟩ a1 ⟨by omega, by omega⟩ w
    · exact pN15x3_any a0 ⟨by omega, by omega⟩ a1 ⟨by omega, by omega⟩ w
    · exact pN16x3_any a0 ⟨by omega, by omega⟩ a1 ⟨by omega, by omega⟩ w
    · exact pN17x3_any a0 ⟨by omega, by omega⟩ a1 ⟨by omega, by omega⟩ w
    · exact pN18x3_any a0 ⟨by omega, by omega⟩ a1 ⟨by omega, by omega⟩ w
    · exact pN19x3_any a0 ⟨by omega, by omega⟩ a1 ⟨by omega, by omega⟩ w
    · exact pN20x3_any a0 ⟨by omega, by omega⟩ a1 ⟨by omega, by omega⟩ w
  · rcases (by omega : a0 < 4 ∨ a0 = 4 ∨ a0 = 5 ∨ a0 = 6 ∨ a0 = 7 ∨ a0 = 8 ∨ a0 = 9 ∨ a0 = 10 ∨ a0 = 11 ∨ a0 = 12 ∨ a0 = 13 ∨ a0 = 14 ∨ a0 = 15 ∨ a0 = 16 ∨ a0 = 17 ∨ a0 = 18 ∨ a0 = 19 ∨ a0 = 20) with t | t | t | t | t | t | t | t | t | t | t | t | t | t | t | t | t | t
    · exact pK4_any a0 ⟨by omega, by omega⟩ a1 ⟨by omega, by omega⟩ w
    · exact pN4x4_any a0 ⟨by omega, by omega⟩ a1 ⟨by omega, by omega⟩ w
    · exact pN5x4_any a0 ⟨by omega, by omega⟩ a1 ⟨by omega, by omega⟩ w
    · exact pN6x4_any a0 ⟨by omega, by omega⟩ a1 ⟨by omega, by omega⟩ w
    · exact pN7x4_any a0 ⟨by omega, by omega⟩ a1 ⟨by omega, by omega⟩ w
    · exact pN8x4_any a0 ⟨by omega, by omega⟩ a1 ⟨by omega, by omega⟩ w
    · exact pN9x4_any a0 ⟨by omega, by omega⟩ a1 ⟨by omega, by omega⟩ w
    · exact pN10x4_any a0 ⟨by omega, by omega⟩ a1 ⟨by omega, by omega⟩ w
    · exact pN11x4_any a0 ⟨by omega, by omega⟩ a1 ⟨by omega, by omega⟩ w
    · exact pN12x4_any a0 ⟨by omega, by omega⟩ a1 ⟨by omega, by omega⟩ w
    · exact pN13x4_any a0 ⟨by omega, by omega⟩ a1 ⟨by omega, by omega⟩ w
    · exact pN14x4_any a0 ⟨by omega, by omega⟩ a1 ⟨by omega, by omega⟩ w
    · exact pN15x4_any a0 ⟨by omega, by omega⟩ a1 ⟨by omega, by omega⟩ w
    · exact pN16x4_any a0 ⟨by omega, by omega⟩ a1 ⟨by omega, by omega⟩ w
    · exact pN17x4_any a0 ⟨by omega, by omega⟩ a1 ⟨by omega, by omega⟩ w
    · exact pN18x4_any a0 ⟨by omega, by omega⟩ a1 ⟨by omega, by omega⟩ w
    · exact pN19x4_any a0 ⟨by omega, by omega⟩ a1 ⟨by omega, by omega⟩ w
    · exact pN20x4_any a0 ⟨by omega, by omega⟩ a1 ⟨by omega, by omega⟩ w
  · rcases (by omega : a0 < 5 ∨ a0 = 5 ∨ a0 = 6 ∨ a0 = 7 ∨ a0 = 8 ∨ a0 = 9 ∨ a0 = 10 ∨ a0 = 11 ∨ a0 = 12 ∨ a0 = 13 ∨ a0 = 14 ∨ a0 = 15 ∨ a0 = 16 ∨ a0 = 17 ∨ a0 = 18 ∨ a0 = 19 ∨ a0 = 20) with t | t | t | t | t | t | t | t | t | t | t | t | t | t | t | t | t
    · exact pK5_any a0 ⟨by omega, by omega⟩ a1 ⟨by omega, by omega⟩ w
    · exact pN5x5_any a0 ⟨by omega, by omega⟩ a1 ⟨by omega, by omega⟩ w
    · exact pN6x5_any a0 ⟨by omega, by omega⟩ a1 ⟨by omega, by omega⟩ w
    · exact pN7x5_any a0 ⟨by omega, by omega⟩ a1 ⟨by omega, by omega⟩ w
    · exact pN8x5_any a0 ⟨by omega, by omega⟩ a1 ⟨by omega, by omega⟩ w
    · exact pN9x5_any a0 ⟨by omega, by omega⟩ a1 ⟨by omega, by omega⟩ w
    · exact pN10x5_any a0 ⟨by omega, by omega⟩ a1 ⟨by omega, by omega⟩ w
    · exact pN11x5_any a0 ⟨by omega, by omega⟩ a1 ⟨by omega, by omega⟩ w
    · exact pN12x5_any a0 ⟨by omega, by omega⟩ a1 ⟨by omega, by omega⟩ w
    · exact pN13x5_any a0 ⟨by omega, by omega⟩ a1 ⟨by omega, by omega⟩ w
    · exact pN14x5_any a0 ⟨by omega, by omega⟩ a1 ⟨by omega, by omega⟩ w
    · exact pN15x5_any a0 ⟨by omega, by omega⟩ a1 ⟨by omega, by omega⟩ w
    · exact pN16x5_any a0 ⟨by omega, by omega⟩ a1 ⟨by omega, by omega⟩ w
    · exact pN17x5_any a0 ⟨by omega, by omega⟩ a1 ⟨by omega, by omega⟩ w
    · exact pN18x5_any a0 ⟨by omega, by omega⟩ a1 ⟨by omega, by omega⟩ w
    · exact pN19x5_any a0 ⟨by omega, by omega⟩ a1 ⟨by omega, by omega⟩ w
    · exact pN20x5_any a0 ⟨by omega, by omega⟩ a1 ⟨by omega, by omega⟩ w
  · rcases (by omega : a0 < 6 ∨ a0 = 6 ∨ a0 = 7 ∨ a0 = 8 ∨ a0 = 9 ∨ a0 = 10 ∨ a0 = 11 ∨ a0 = 12 ∨ a0 = 13 ∨ a0 = 14 ∨ a0 = 15 ∨ a0 = 16 ∨ a0 = 17 ∨ a0 = 18 ∨ a0 = 19 ∨ a0 = 20) with t | t | t | t | t | t | t | t | t | t | t | t | t | t | t | t
    · exact pK6_any a0 ⟨by omega, by omega⟩ a1 ⟨by omega, by omega⟩ w
    · exact pN6x6_any a0 ⟨by omega, by omega⟩ a1 ⟨by omega, by omega⟩ w
    · exact pN7x6_any a0 ⟨by omega, by omega⟩ a1 ⟨by omega, by omega⟩ w
    · exact pN8x6_any a0 ⟨by omega, by omega⟩ a1 ⟨by omega, by omega⟩ w
    · exact pN9x6_any a0 ⟨by omega, by omega⟩ a1 ⟨by omega, by omega⟩ w
    · exact pN10x6_any a0 ⟨by omega, by omega⟩ a1 ⟨by omega, by omega⟩ w
    · exact pN11x6_any a0 ⟨by omega, by omega⟩ a1 ⟨by omega, by omega⟩ w
    · exact pN12x6_any a0 ⟨by omega, by omega⟩ a1 ⟨by omega, by omega⟩ w
    · exact pN13x6_any a0 ⟨by omega, by omega⟩ a1 ⟨by omega, by omega⟩ w
    · exact pN14x6_any a0 ⟨by omega, by omega⟩ a1 ⟨by omega, by omega⟩ w
    · exact pN15x6_any a0 ⟨by omega, by omega⟩ a1 ⟨by omega, by omega⟩ w
    · exact pN16x6_any a0 ⟨by omega, by omega⟩ a1 ⟨by omega, by omega⟩ w
    · exact pN17x6_any a0 ⟨by omega, by omega⟩ a1 ⟨by omega, by omega⟩ w
    · exact pN18x6_any a0 ⟨by omega, by omega⟩ a1 ⟨by omega, by omega⟩ w
    · exact pN19x6_any a0 ⟨by omega, by omega⟩ a1 ⟨by omega, by omega⟩ w
    · exact pN20x6_any a0 ⟨by omega, by omega⟩ a1 ⟨by omega, by omega⟩ w
  · rcases (by omega : a0 < 7 ∨ a0 = 7 ∨ a0 = 8 ∨ a0 = 9 ∨ a0 = 10 ∨ a0 = 11 ∨ a0 = 12 ∨ a0 = 13 ∨ a0 = 14 ∨ a0 = 15 ∨ a0 = 16 ∨ a0 = 17 ∨ a0 = 18 ∨ a0 = 19 ∨ a0 = 20) with t | t | t | t | t | t | t | t | t | t | t | t | t | t | t
    · exact pK7_any a0 ⟨by omega, by omega⟩ a1 ⟨by omega, by omega⟩ w
    · exact pN7x7_any a0 ⟨by omega, by omega⟩ a1 ⟨by omega, by omega⟩ w
    · exact pN8x7_any a0 ⟨by omega, by omega⟩ a1 ⟨by omega, by omega⟩ w
    · exact pN9x7_any a0 ⟨by omega, by omega⟩ a1 ⟨by omega, by omega⟩ w
    · exact pN10x7_any a0 ⟨by omega, by omega⟩ a1 ⟨by omega, by omega⟩ w
    · exact pN11x7_any a0 ⟨by omega, by omega⟩ a1 ⟨by omega, by omega⟩ w
    · exact pN12x7_any a0 ⟨by omega, by omega⟩ a1 ⟨by omega, by omega⟩ w
    · exact pN13x7_any a0 ⟨by omega, by omega⟩ a1 ⟨by omega, by omega⟩ w
    · exact pN14x7_any a0 ⟨by omega, by omega⟩ a1 ⟨by omega, by omega⟩ w
    · exact pN15x7_any a0 ⟨by omega, by omega⟩ a1 ⟨by omega, by omega⟩ w
    · exact pN16x7_any a0 ⟨by omega, by omega⟩ a1 ⟨by omega, by omega⟩ w
    · exact pN17x7_any a0 ⟨by omega, by omega⟩ a1 ⟨by omega, by omega⟩ w
    · exact pN18x7_any a0 ⟨by omega, by omega⟩ a1 ⟨by omega, by omega⟩ w
    · exact pN19x7_any a0 ⟨by omega, by omega⟩ a1 ⟨by omega, by omega⟩ w
    · exact pN20x7_any a0 ⟨by omega, by omega⟩ a1 ⟨by omega, by omega⟩ w
  · rcases (by omega : a0 < 8 ∨ a0 = 8 ∨ a0 = 9 ∨ a0 = 10 ∨ a0 = 11 ∨ a0 = 12 ∨ a0 = 13 ∨ a0 = 14 ∨ a0 = 15 ∨ a0 = 16 ∨ a0 = 17 ∨ a0 = 18 ∨ a0 = 19 ∨ a0 = 20) with t | t | t | t | t | t | t | t | t | t | t | t | t | t
    · exact pK8_any a0 ⟨by omega, by omega⟩ a1 ⟨by omega, by omega⟩ w
    · exact pN8x8_any a0 ⟨by omega, by omega⟩ a1 ⟨by omega, by omega⟩ w
    · exact pN9x8_any a0 ⟨by omega, by omega⟩ a1 ⟨by omega, by omega⟩ w
    · exact pN10x8_any a0 ⟨by omega, by omega⟩ a1 ⟨by omega, by omega⟩ w
    · exact pN11x8_any a0 ⟨by omega, by omega⟩ a1 ⟨by omega, by omega⟩ w
    · exact pN12x8_any a0 ⟨by omega, by omega⟩ a1 ⟨by omega, by omega⟩ w
    · exact pN13x8_any a0 ⟨by omega, by omega⟩ a1 ⟨by omega, by omega⟩ w
    · exact pN14x8_any a0 ⟨by omega, by omega⟩ a1 ⟨by omega, by omega⟩ w
    · exact pN15x8_any a0 ⟨by omega, by omega⟩ a1 ⟨by omega, by omega⟩ w
    · exact pN16x8_any a0 ⟨by omega, by omega⟩ a1 ⟨by omega, by omega⟩ w
    · exact pN17x8_any a0 ⟨by omega, by omega⟩ a1 ⟨by omega, by omega⟩ w
    · exact pN18x8_any a0 ⟨by omega, by omega⟩ a1 ⟨by omega, by omega⟩ w
    · exact pN19x8_any a0 ⟨by omega, by omega⟩ a1 ⟨by omega, by omega⟩ w
    · exact pN20x8_any a0 ⟨by omega, by omega⟩ a1 ⟨by omega, by omega⟩ w
  · rcases (by omega : a0 < 9 ∨ a0 = 9 ∨ a0 = 10 ∨ a0 = 11 ∨ a0 = 12 ∨ a0 = 13 ∨ a0 = 14 ∨ a0 = 15 ∨ a0 = 16 ∨ a0 = 17 ∨ a0 = 18 ∨ a0 = 19 ∨ a0 = 20) with t | t | t | t | t | t | t | t | t | t | t | t | t
    · exact pK9_any a0 ⟨by omega, by omega⟩ a1 ⟨by omega, by omega⟩ w
    · exact pN9x9_any a0 ⟨by omega, by omega⟩ a1 ⟨by omega, by omega⟩ w
    · exact pN10x9_any a0 ⟨by omega, by omega⟩ a1 ⟨by omega, by omega⟩ w
    · exact pN11x9_any a0 ⟨by omega, by omega⟩ a1 ⟨by omega, by omega⟩ w
    · exact pN12x9_any a0 ⟨by omega, by omega⟩ a1 ⟨by omega, by omega⟩ w
    · exact pN13x9_any a0 ⟨by omega, by omega⟩ a1 ⟨by omega, by omega⟩ w
    · exact pN14x9_any a0 ⟨by omega, by omega⟩ a1 ⟨by omega, by omega⟩ w
    · exact pN15x9_any a0 ⟨by omega, by omega⟩ a1 ⟨by omega, by omega⟩ w
    · exact pN16x9_any a0 ⟨by omega, by omega⟩ a1 ⟨by omega, by omega⟩ w
    · exact pN17x9_any a0 ⟨by omega, by omega⟩ a1 ⟨by omega, by omega⟩ w
    · exact pN18x9_any a0 ⟨by omega, by omega⟩ a1 ⟨by omega, by omega⟩ w
    · exact pN19x9_any a0 ⟨by omega, by omega⟩ a1 ⟨by omega, by omega⟩ w
    · exact pN20x9_any a0 ⟨by omega, by omega⟩ a1 ⟨by omega, by omega⟩ w
  · rcases (by omega : a0 < 10 ∨ a0 = 10 ∨ a0 = 11 ∨ a0 = 12 ∨ a0 = 13 ∨ a0 = 14 ∨ a0 = 15 ∨ a0 = 16 ∨ a0 = 17 ∨ a0 = 18 ∨ a0 = 19 ∨ a0 = 20) with t | t | t | t | t | t | t | t | t | t | t | t
    · exact pK10_any a0 ⟨by omega, by omega⟩ a1 ⟨by omega, by omega⟩ w
    · exact pN10x10_any a0 ⟨by omega, by omega⟩ a1 ⟨by omega, by omega⟩ w
    · exact pN11x10_any a0 ⟨by omega, by omega⟩ a1 ⟨by omega, by omega⟩ w
    · exact pN12x10_any a0 ⟨by omega, by omega⟩ a1 ⟨by omega, by omega⟩ w
    · exact pN13x10_any a0 ⟨by omega, by omega⟩ a1 ⟨by omega, by omega⟩ w
    · exact pN14x10_any a0 ⟨by omega, by omega⟩ a1 ⟨by omega, by omega⟩ w
    · exact pN15x10_any a0 ⟨by omega, by omega⟩ a1 ⟨by omega, by omega⟩ w
    · exact pN16x10_any a0 ⟨by omega, by omega⟩ a1 ⟨by omega, by omega⟩ w
    · exact pN17x10_any a0 ⟨by omega, by omega⟩ a1 ⟨by omega, by omega⟩ w
    · exact pN18x10_any a0 ⟨by omega, by omega⟩ a1 ⟨by omega, by omega⟩ w
    · exact pN19x10_any a0 ⟨by omega, by omega⟩ a1 ⟨by omega, by omega⟩ w
    · exact pN20x10_any a0 ⟨by omega, by omega⟩ a1 ⟨by omega, by omega⟩ w
  · rcases (by omega : a0 < 11 ∨ a0 = 11 ∨ a0 = 12 ∨ a0 = 13 ∨ a0 = 14 ∨ a0 = 15 ∨ a0 = 16 ∨ a0 = 17 ∨ a0 = 18 ∨ a0 = 19 ∨ a0 = 20) with t | t | t | t | t | t | t | t | t | t | t
    · exact pK11_any a0 ⟨by omega, by omega⟩ a1 ⟨by omega, by omega⟩ w
    · exact pN11x11_any a0 ⟨by omega, by omega⟩ a1 ⟨by omega, by omega⟩ w
    · exact pN12x11_any a0 ⟨by omega, by omega⟩ a1 ⟨by omega, by omega⟩ w
    · exact pN13x11_any a0 ⟨by omega, by omega⟩ a1 ⟨by omega, by omega⟩ w
    · exact pN14x11_any a0 ⟨by omega, by omega⟩ a1 ⟨by omega, by omega⟩ w
    · exact pN15x11_any a0 ⟨by omega, by omega⟩ a1 ⟨by omega, by omega⟩ w
    · exact pN16x11_any a0 ⟨by omega, by omega⟩ a1 ⟨by omega, by omega⟩ w
    · exact pN17x11_any a0 ⟨by omega, by omega⟩ a1 ⟨by omega, by omega⟩ w
    · exact pN18x11_any a0 ⟨by omega, by omega⟩ a1 ⟨by omega, by omega⟩ w
    · exact pN19x11_any a0 ⟨by omega, by omega⟩ a1 ⟨by omega, by omega⟩ w
    · exact pN20x11_any a0 ⟨by omega, by omega⟩ a1 ⟨by omega, by omega⟩ w
  · rcases (by omega : a0 < 12 ∨ a0 = 12 ∨ a0 = 13 ∨ a0 = 14 ∨ a0 = 15 ∨ a0 = 16 ∨ a0 = 17 ∨ a0 = 18 ∨ a0 = 19 ∨ a0 = 20) with t | t | t | t | t | t | t | t | t | t
    · exact pK12_any a0 ⟨by omega, by omega⟩ a1 ⟨by omega, by omega⟩ w
    · exact pN12x12_any a0 ⟨by omega, by omega⟩ a1 ⟨by omega, by omega⟩ w
    · exact pN13x12_any a0 ⟨by omega, by omega⟩ a1 ⟨by omega, by omega⟩ w
    · exact pN14x12_any a0 ⟨by omega, by omega⟩ a1 ⟨by omega, by omega⟩ w
    · exact pN15x12_any a0 ⟨by omega, by omega⟩ a1 ⟨by omega, by omega⟩ w
    · exact pN16x12_any a0 ⟨by omega, by omega⟩ a1 ⟨by omega, by omega⟩ w
    · exact pN17x12_any a0 ⟨by omega, by omega⟩ a1 ⟨by omega, by omega⟩ w
    · exact pN18x12_any a0 ⟨by omega, by omega⟩ a1 ⟨by omega, by omega⟩ w
    · exact pN19x12_any a0 ⟨by omega, by omega⟩ a1 ⟨by omega, by omega⟩ w
    · exact pN20x12_any a0 ⟨by omega, by omega⟩ a1 ⟨by omega, by omega⟩ w
  · rcases (by omega : a0 < 13 ∨ a0 = 13 ∨ a0 = 14 ∨ a0 = 15 ∨ a0 = 16 ∨ a0 = 17 ∨ a0 = 18 ∨ a0 = 19 ∨ a0 = 20) with t | t | t | t | t | t | t | t | t
    · exact pK13_any a0 ⟨by omega, by omega⟩ a1 ⟨by omega, by omega⟩ w
    · exact pN13x13_any a0 ⟨by omega, by omega⟩ a1 ⟨by omega, by omega⟩ w
    · exact pN14x13_any a0 ⟨by omega, by omega⟩ a1 ⟨by omega, by omega⟩ w
    · exact pN15x13_any a0 ⟨by omega, by omega⟩ a1 ⟨by omega, by omega⟩ w
    · exact pN16x13_any a0 ⟨by omega, by omega⟩ a1 ⟨by omega, by omega⟩ w
    · exact pN17x13_any a0 ⟨by omega, by omega⟩ a1 ⟨by omega, by omega⟩ w
    · exact pN18x13_any a0 ⟨by omega, by omega⟩ a1 ⟨by omega, by omega⟩ w
    · exact pN19x13_any a0 ⟨by omega, by omega⟩ a1 ⟨by omega, by omega⟩ w
    · exact pN20x13_any a0 ⟨by omega, by omega⟩ a1 ⟨by omega, by omega⟩ w
  · rcases (by omega : a0 < 14 ∨ a0 = 14 ∨ a0 = 15 ∨ a0 = 16 ∨ a0 = 17 ∨ a0 = 18 ∨ a0 = 19 ∨ a0 = 20) with t | t | t | t | t | t | t | t
    · exact pK14_any a0 ⟨by omega, by omega⟩ a1 ⟨by omega, by omega⟩ w
    · exact pN14x14_any a0 ⟨by omega, by omega⟩ a1 ⟨by omega, by omega⟩ w
    · exact pN15x14_any a0 ⟨by omega, by omega⟩ a1 ⟨by omega, by omega⟩ w
    · exact pN16x14_any a0 ⟨by omega, by omega⟩ a1 ⟨by omega, by omega⟩ w
    · exact pN17x14_any a0 ⟨by omega, by omega⟩ a1 ⟨by omega, by omega⟩ w
    · exact pN18x14_any a0 ⟨by omega, by omega⟩ a1 ⟨by omega, by omega⟩ w
    · exact pN19x14_any a0 ⟨by omega, by omega⟩ a1 ⟨by omega, by omega⟩ w
    · exact pN20x14_any a0 ⟨by omega, by omega⟩ a1 ⟨by omega, by omega⟩ w
  · rcases (by omega : a0 < 15 ∨ a0 = 15 ∨ a0 = 16 ∨ a0 = 17 ∨ a0 = 18 ∨ a0 = 19 ∨ a0 = 20) with t | t | t | t | t | t | t
    · exact pK15_any a0 ⟨by omega, by omega⟩ a1 ⟨by omega, by omega⟩ w
    · exact pN15x15_any a0 ⟨by omega, by omega⟩ a1 ⟨by omega, by omega⟩ w
    · exact pN16x15_any a0 ⟨by omega, by omega⟩ a1 ⟨by omega, by omega⟩ w
    · exact pN17x15_any a0 ⟨by omega, by omega⟩ a1 ⟨by omega, by omega⟩ w
    · exact pN18x15_any a0 ⟨by omega, by omega⟩ a1 ⟨by omega, by omega⟩ w
    · exact pN19x15_any a0 ⟨by omega, by omega⟩ a1 ⟨by omega, by omega⟩ w
    · exact pN20x15_any a0 ⟨by omega, by omega⟩ a1 ⟨by omega, by omega⟩ w
  · rcases (by omega : a0 < 16 ∨ a0 = 16 ∨ a0 = 17 ∨ a0 = 18 ∨ a0 = 19 ∨ a0 = 20) with t | t | t | t | t | t
    · exact pK16_any a0 ⟨by omega, by omega⟩ a1 ⟨by omega, by omega⟩ w
    · exact pN16x16_any a0 ⟨by omega, by omega⟩ a1 ⟨by omega, by omega⟩ w
    · exact pN17x16_any a0 ⟨by omega, by omega⟩ a1 ⟨by omega, by omega⟩ w
    · exact pN18x16_any a0 ⟨by omega, by omega⟩ a1 ⟨by omega, by omega⟩ w
    · exact pN19x16_any a0 ⟨by omega, by omega⟩ a1 ⟨by omega, by omega⟩ w
    · exact pN20x16_any a0 ⟨by omega, by omega⟩ a1 ⟨by omega, by omega⟩ w
  · rcases (by omega : a0 < 17 ∨ a0 = 17 ∨ a0 = 18 ∨ a0 = 19 ∨ a0 = 20) with t | t | t | t | t
    · exact pK17_any a0 ⟨by omega, by omega⟩ a1 ⟨by omega, by omega⟩ w
    · exact pN17x17_any a0 ⟨by omega, by omega⟩ a1 ⟨by omega, by omega⟩ w
    · exact pN18x17_any a0 ⟨by omega, by omega⟩ a1 ⟨by omega, by omega⟩ w
    · exact pN19x17_any a0 ⟨by omega, by omega⟩ a1 ⟨by omega, by omega⟩ w
    · exact pN20x17_any a0 ⟨by omega, by omega⟩ a1 ⟨by omega, by omega⟩ w
  · rcases (by omega : a0 < 18 ∨ a0 = 18 ∨ a0 = 19 ∨ a0 = 20) with t | t | t | t
    · exact pK18_any a0 ⟨by omega, by omega⟩ a1 ⟨by omega, by omega⟩ w
    · exact pN18x18_any a0 ⟨by omega, by omega⟩ a1 ⟨by omega, by omega⟩ w
    · exact pN19x18_any a0 ⟨by omega, by omega⟩ a1 ⟨by omega, by omega⟩ w
    · exact pN20x18_any a0 ⟨by omega, by omega⟩ a1 ⟨by omega, by omega⟩ w
  · rcases (by omega : a0 < 19 ∨ a0 = 19 ∨ a0 = 20) with t | t | t
    · exact pK19_any a0 ⟨by omega, by omega⟩ a1 ⟨by omega, by omega⟩ w
    · exact pN19x19_any a0 ⟨by omega, by omega⟩ a1 ⟨by omega, by omega⟩ w
    · exact pN20x19_any a0 ⟨by omega, by omega⟩ a1 ⟨by omega, by omega⟩ w
  · rcases (by omega : a0 < 20 ∨ a0 = 20) with t | t
    · exact pK20_any a0 ⟨by omega, by omega⟩ a1 ⟨by omega, by omega⟩ w
    · exact pN20x20_any a0 ⟨by omega, by omega⟩ a1 ⟨by omega, by omega⟩ w

set_option maxRecDepth 100000 in
theorem lifted (os : Os) (started : os.Started) (H : Type) (enc : TypeId × Value → H) :
    ReturnsInHanded {} Tryz.checked os 6 .any (Rows.hubDeafSpec.pre6 enc Tryz.prog Tryz.f6 Rows.hubDeafRow.domain false) (Rows.hubDeafSpec.post enc Tryz.prog Tryz.f6 false true false false) := by
  refine returnsInHanded_of_change (C := Tryz.checked) own started (by kernel_rfl) Tryz.func6
    (ChangeSpec.witness6 (enc := enc) (C := Tryz.checked) false ⟨#[], #[.int .i64 0, .int .i64 0], []⟩ 8 (by kernel_rfl) (by kernel_rfl) (by kernel_rfl) (by kernel_rfl)) ?_
  intro W base args ds gs before hval0 hW hcnd _
  have hval : ∀ (j : Nat) t v, Tryz.f6.params[j]? = some t → args[j]? = some v → Value.okWide Tryz.prog W .any base t v := hval0
  have hW' := hW
  obtain ⟨p, q, hA0, hV, rfl, hfz, hnd⟩ := hW
  have hA : DataW.TrodAll enc Tryz.prog W 0 (fun _ => true) true Tryz.f6.params.toList args.toList ds p := hA0
  rw [Tryz.params6] at hA hval
  obtain ⟨v0, vs0, d0, ds0, p_0, q0, hargs, rfl, rfl, k0, r0⟩ := trodAll_cons hA
  obtain ⟨v1, vs1, d1, ds1, p_1, q1, rfl, rfl, rfl, k1, r1⟩ := trodAll_cons r0
  obtain ⟨rfl, rfl, rfl⟩ := trodAll_nil r1
  obtain rfl : args = #[v0, v1] := by cases args; simp_all
  obtain ⟨rfl, rfl⟩ := trodVars_none hV
  have lt0 : ∀ x ∈ p_0, x.block < W.heap.size := by obtain ⟨m, hm⟩ := k0; exact DataW.trod_lt m _ _ _ hm
  have lt1 : ∀ x ∈ p_1, x.block < W.heap.size := by obtain ⟨m, hm⟩ := k1; exact DataW.trod_lt m _ _ _ hm
  obtain ⟨a0, rfl, hh0⟩ := open_int (hval 0 3 v0 rfl rfl)
  obtain ⟨a1, rfl, hh1⟩ := open_int (hval 1 3 v1 rfl rfl)
  clear hA0 hval0
  refine (walk a0 hh0 a1 hh1 W).mono fun e W' ⟨he, hg⟩ => ?_
  subst he
  have bel := hg.below0
  exact ⟨_, rfl, _, _, _, [], _, [], hW', trodAll_mk1 (shut_bool Tryz.underlying4 _), (trodAll_cons_mk (Below.trod laid_out (by kernel_rfl) (of_decide_eq_true (by kernel_rfl)) k0 bel lt0) (trodAll_cons_mk (Below.trod laid_out (by kernel_rfl) (of_decide_eq_true (by kernel_rfl)) k1 bel lt1) trodAll_mk0)), rfl, bel.frame _, fun h => by cases h⟩

theorem over : Rows.hubDeafRow.holds Tryz.pinned (OpenSpec.ofChange Rows.hubDeafSpec) :=
  OpenClaim.holds_of_wide 6 Tryz.f6 rfl rfl rfl rfl rfl rfl rfl ⟨rfl, rfl, rfl, rfl, rfl⟩ rfl rfl rfl rfl rfl j_func Tryz.func6 joined
    (of_decide_eq_true (by kernel_rfl)) (by unfold Func.isWrapper; first | (rw [if_pos (by decide +kernel)]; kernel_rfl) | (rw [if_neg (by decide +kernel)]; exact ⟨rfl, rfl⟩))
    (fun os started H enc _ => lifted os started H enc)

theorem proved : Rows.HubDeafSaid := over
end Go.Proofs.YtlmpmmcefdhgmaaGreat.hubDeaf

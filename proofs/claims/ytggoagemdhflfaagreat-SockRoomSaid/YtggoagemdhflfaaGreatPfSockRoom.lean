/-
  It is proved that there are at most MaxSockets, each of a number of its own, and the least free one is given (wharflaw20.SockRoom). No condition.
-/
import Derived.Test.YtggoagemdhflfaaGreatRows
import Derived.WalkKit
import Derived.ProofKit
import Derived.OpenShut
import Derived.Below
import Derived.Test.YtggoagemdhflfaaGreatPaSockRoomQ0
import Derived.Test.YtggoagemdhflfaaGreatPaSockRoomQ1
import Derived.Test.YtggoagemdhflfaaGreatPaSockRoomQ2
import Derived.Test.YtggoagemdhflfaaGreatPaSockRoomQ3
import Derived.Test.YtggoagemdhflfaaGreatPaSockRoomQ4
import Derived.Test.YtggoagemdhflfaaGreatPaSockRoomQ5
import Derived.Test.YtggoagemdhflfaaGreatPaSockRoomQ6
import Derived.Test.YtggoagemdhflfaaGreatPaSockRoomQ7
import Derived.Test.YtggoagemdhflfaaGreatJfSockRoom
namespace Go.Proofs.YtggoagemdhflfaaGreat.sockRoom
open Go.ChangeShapes Go.WideShapes Go.ChangeAt Go.RowKit
open Go
set_option linter.unusedVariables false
set_option linter.unusedSimpArgs false

theorem own : ownKnob Tryz.prog.godebug = none := by kernel_rfl
section
variable {P : Program} {w : World} {r : Reach} {base : Nat} {t : TypeId} {v : Value}
theorem cell_int {k : IntKind} (ht : P.underlying t = some (.int k)) (h : Cell.okWide P w r base t v) : ∃ n, v = .int k n ∧ k.min ≤ n ∧ n ≤ k.max := by
  simp only [Cell.okWide, ht] at h
  cases v <;> simp_all [Cell.ok, IntKind.has]
theorem cell_bool (ht : P.underlying t = some .bool) (h : Cell.okWide P w r base t v) : ∃ b, v = .bool b := by
  simp only [Cell.okWide, ht] at h
  cases v <;> simp_all [Cell.ok]
theorem cell_slice {e : TypeId} (ht : P.underlying t = some (.slice e)) (h : Cell.okWide P w r base t v) : ∃ a n c, v = .slice a n c ∧ (n : Int) ≤ 9223372036854775807 := by
  simp only [Cell.okWide, ht] at h
  have hmax : IntKind.i64.max = 9223372036854775807 := by decide
  cases v with
  | slice a n c =>
    refine ⟨a, n, c, rfl, ?_⟩
    cases a with
    | none =>
      cases n with
      | zero => omega
      | succ n => simp [Cell.ok, ht] at h
    | some a =>
      simp only [Cell.ok, ht] at h
      rw [hmax] at h
      omega
  | _ => simp_all [Cell.ok]
end
theorem in_i64 {n : Int} (h : IntKind.i64.min ≤ n ∧ n ≤ IntKind.i64.max) : (-9223372036854775808) ≤ n ∧ n ≤ 9223372036854775807 := by
  rw [show IntKind.i64.min = (-9223372036854775808) by decide, show IntKind.i64.max = 9223372036854775807 by decide] at h
  exact h
set_option maxRecDepth 100000 in
theorem open_int {W : World} {base : Nat} {v : Value} (h : Value.okWide Tryz.prog W .any base 3 v) : ∃ (a0 : Int), v = .int .i64 a0 ∧ ((-9223372036854775808) ≤ a0 ∧ a0 ≤ 9223372036854775807) := by
    simp only [Value.okWide, Tryz.underlying3] at h
    obtain ⟨a0, rfl, h0⟩ := cell_int Tryz.underlying3 h
    have h0 := in_i64 h0
    exact ⟨_, rfl, h0⟩

theorem walk (a0 : Int) (h0 : ((-9223372036854775808) ≤ a0 ∧ a0 ≤ 9223372036854775807)) (a1 : Int) (h1 : ((-9223372036854775808) ≤ a1 ∧ a1 ≤ 9223372036854775807)) (w : World) : Calls Tryz.prog 6 #[.int .i64 a0, .int .i64 a1] w fun e w' => e = .returned (.bool true) ∧ Kp [] w w' := by
  rcases (by omega : a0 ≤ -1 ∨ 101 ≤ a0 ∨ (65 ≤ a0 ∧ a0 ≤ 100) ∨ (0 ≤ a0 ∧ a0 ≤ 64)) with q | q | q | q
  · exact pL_any a0 ⟨by omega, by omega⟩ a1 ⟨by omega, by omega⟩ w
  · exact pH_any a0 ⟨by omega, by omega⟩ a1 ⟨by omega, by omega⟩ w
  · rcases (by omega : a1 ≤ -1 ∨ 64 ≤ a1 ∨ (0 ≤ a1 ∧ a1 ≤ 63)) with r | r | r
    · exact pMA_any a0 ⟨by omega, by omega⟩ a1 ⟨by omega, by omega⟩ w
    · exact pMB_any a0 ⟨by omega, by omega⟩ a1 ⟨by omega, by omega⟩ w
    · exact pM_any a0 ⟨by omega, by omega⟩ a1 ⟨by omega, by omega⟩ w
  rcases (by omega : a1 ≤ -1 ∨ 64 ≤ a1 ∨ (0 ≤ a1 ∧ a1 ≤ 63)) with r | r | r
  · exact pA_any a0 ⟨by omega, by omega⟩ a1 ⟨by omega, by omega⟩ w
  · exact pB_any a0 ⟨by omega, by omega⟩ a1 ⟨by omega, by omega⟩ w
  by_cases hk : a0 ≤ a1
  · rcases (by omega : a1 = 0 ∨ a1 = 1 ∨ a1 = 2 ∨ a1 = 3 ∨ a1 = 4 ∨ a1 = 5 ∨ a1 = 6 ∨ a1 = 7 ∨ a1 = 8 ∨ a1 = 9 ∨ a1 = 10 ∨ a1 = 11 ∨ a1 = 12 ∨ a1 = 13 ∨ a1 = 14 ∨ a1 = 15 ∨ a1 = 16 ∨ a1 = 17 ∨ a1 = 18 ∨ a1 = 19 ∨ a1 = 20 ∨ a1 = 21 ∨ a1 = 22 ∨ a1 = 23 ∨ a1 = 24 ∨ a1 = 25 ∨ a1 = 26 ∨ a1 = 27 ∨ a1 = 28 ∨ a1 = 29 ∨ a1 = 30 ∨ a1 = 31 ∨ a1 = 32 ∨ a1 = 33 ∨ a1 = 34 ∨ a1 = 35 ∨ a1 = 36 ∨ a1 = 37 ∨ a1 = 38 ∨ a1 = 39 ∨ a1 = 40 ∨ a1 = 41 ∨ a1 = 42 ∨ a1 = 43 ∨ a1 = 44 ∨ a1 = 45 ∨ a1 = 46 ∨ a1 = 47 ∨ a1 = 48 ∨ a1 = 49 ∨ a1 = 50 ∨ a1 = 51 ∨ a1 = 52 ∨ a1 = 53 ∨ a1 = 54 ∨ a1 = 55 ∨ a1 = 56 ∨ a1 = 57 ∨ a1 = 58 ∨ a1 = 59 ∨ a1 = 60 ∨ a1 = 61 ∨ a1 = 62 ∨ a1 = 63) with s | s | s | s | s | s | s | s | s | s | s | s | s | s | s | s | s | s | s | s | s | s | s | s | s | s | s | s | s | s | s | s | s | s | s | s | s | s | s | s | s | s | s | s | s | s | s | s | s | s | s | s | s | s | s | s | s | s | s | s | s | s | s | s
    · exact pK0_any a0 ⟨by omega, by omega⟩ a1 ⟨by omega, by omega⟩ w
    · exact pK1_any a0 ⟨by omega, by omega⟩ a1 ⟨by omega, by omega⟩ w
    · exact pK2_any a0 ⟨by omega, by omega⟩ a1 ⟨by omega, by omega⟩ w
    · exact pK3_any a0 ⟨by omega, by omega⟩ a1 ⟨by omega, by omega⟩ w
    · exact pK4_any a0 ⟨by omega, by omega⟩ a1 ⟨by omega, by omega⟩ w
    · exact pK5_any a0 ⟨by omega, by omega⟩ a1 ⟨by omega, by omega⟩ w
    · exact pK6_any a0 ⟨by omega, by omega⟩ a1 ⟨by omega, by omega⟩ w
    · exact pK7_any a0 ⟨by omega, by omega⟩ a1 ⟨by omega, by omega⟩ w
    · exact pK8_any a0 ⟨by omega, by omega⟩ a1 ⟨by omega, by omega⟩ w
    · exact pK9_any a0 ⟨by omega, by omega⟩ a1 ⟨by omega, by omega⟩ w
    · exact pK10_any a0 ⟨by omega, by omega⟩ a1 ⟨by omega, by omega⟩ w
    · exact pK11_any a0 ⟨by omega, by omega⟩ a1 ⟨by omega, by omega⟩ w
    · exact pK12_any a0 ⟨by omega, by omega⟩ a1 ⟨by omega, by omega⟩ w
    · exact pK13_any a0 ⟨by omega, by omega⟩ a1 ⟨by omega, by omega⟩ w
    · exact pK14_any a0 ⟨by omega, by omega⟩ a1 ⟨by omega, by omega⟩ w
    · exact pK15_any a0 ⟨by omega, by omega⟩ a1 ⟨by omega, by omega⟩ w
    · exact pK16_any a0 ⟨by omega, by omega⟩ a1 ⟨by omega, by omega⟩ w
    · exact pK17_any a0 ⟨by omega, by omega⟩ a1 ⟨by omega, by omega⟩ w
    · exact pK18_any a0 ⟨by omega, by omega⟩ a1 ⟨by omega, by omega⟩ w
    · exact pK19_any a0 ⟨by omega, by omega⟩ a1 ⟨by omega, by omega⟩ w
    · exact pK20_any a0 ⟨by omega, by omega⟩ a1 ⟨by omega, by omega⟩ w
    · exact pK21_any a0 ⟨by omega, by omega⟩ a1 ⟨by omega, by omega⟩ w
    · exact pK22_any a0 ⟨by omega, by omega⟩ a1 ⟨by omega, by omega⟩ w
    · exact pK23_any a0 ⟨by omega, by omega⟩ a1 ⟨by omega, by omega⟩ w
    · exact pK24_any a0 ⟨by omega, by omega⟩ a1 ⟨by omega, by omega⟩ w
    · exact pK25_any a0 ⟨by omega, by omega⟩ a1 ⟨by omega, by omega⟩ w
    · exact pK26_any a0 ⟨by omega, by omega⟩ a1 ⟨by omega, by omega⟩ w
    · exact pK27_any a0 ⟨by omega, by omega⟩ a1 ⟨by omega, by omega⟩ w
    · exact pK28_any a0 ⟨by omega, by omega⟩ a1 ⟨by omega, by omega⟩ w
    · exact pK29_any a0 ⟨by omega, by omega⟩ a1 ⟨by omega, by omega⟩ w
    · exact pK30_any a0 ⟨by omega, by omega⟩ a1 ⟨by omega, by omega⟩ w
    · exact pK31_any a0 ⟨by omega, by omega⟩ a1 ⟨by omega, by omega⟩ w
    · exact pK32_any a0 ⟨by omega, by omega⟩ a1 ⟨by omega, by omega⟩ w
    · exact pK33_any a0 ⟨by omega, by omega⟩ a1 ⟨by omega, by omega⟩ w
    · exact pK34_any a0 ⟨by omega, by omega⟩ a1 ⟨by omega, by omega⟩ w
    · exact pK35_any a0 ⟨by omega, by omega⟩ a1 ⟨by omega, by omega⟩ w
    · exact pK36_any a0 ⟨by omega, by omega⟩ a1 ⟨by omega, by omega⟩ w
    · exact pK37_any a0 ⟨by omega, by omega⟩ a1 ⟨by omega, by omega⟩ w
    · exact pK38_any a0 ⟨by omega, by omega⟩ a1 ⟨by omega, by omega⟩ w
    · exact pK39_any a0 ⟨by omega, by omega⟩ a1 ⟨by omega, by omega⟩ w
    · exact pK40_any a0 ⟨by omega, by omega⟩ a1 ⟨by omega, by omega⟩ w
    · exact pK41_any a0 ⟨by omega, by omega⟩ a1 ⟨by omega, by omega⟩ w
    · exact pK42_any a0 ⟨by omega, by omega⟩ a1 ⟨by omega, by omega⟩ w
    · exact pK43_any a0 ⟨by omega, by omega⟩ a1 ⟨by omega, by omega⟩ w
    · exact pK44_any a0 ⟨by omega, by omega⟩ a1 ⟨by omega, by omega⟩ w
    · exact pK45_any a0 ⟨by omega, by omega⟩ a1 ⟨by omega, by omega⟩ w
    · exact pK46_any a0 ⟨by omega, by omega⟩ a1 ⟨by omega, by omega⟩ w
    · exact pK47_any a0 ⟨by omega, by omega⟩ a1 ⟨by omega, by omega⟩ w
    · exact pK48_any a0 ⟨by omega, by omega⟩ a1 ⟨by omega, by omega⟩ w
    · exact pK49_any a0 ⟨by omega, by omega⟩ a1 ⟨by omega, by omega⟩ w
    · exact pK50_any a0 ⟨by omega, by omega⟩ a1 ⟨by omega, by omega⟩ w
    · exact pK51_any a0 ⟨by omega, by omega⟩ a1 ⟨by omega, by omega⟩ w
    · exact pK52_any a0 ⟨by omega, by omega⟩ a1 ⟨by omega, by omega⟩ w
    · exact pK53_any a0 ⟨by omega, by omega⟩ a1 ⟨by omega, by omega⟩ w
    · exact pK54_any a0 ⟨by omega, by omega⟩ a1 ⟨by omega, by omega⟩ w
    · exact pK55_any a0 ⟨by omega, by omega⟩ a1 ⟨by omega, by omega⟩ w
    · exact pK56_any a0 ⟨by omega, by omega⟩ a1 ⟨by omega, by omega⟩ w
    · exact pK57_any a0 ⟨by omega, by omega⟩ a1 ⟨by omega, by omega⟩ w
    · exact pK58_any a0 ⟨by omega, by omega⟩ a1 ⟨by omega, by omega⟩ w
    · exact pK59_any a0 ⟨by omega, by omega⟩ a1 ⟨by omega, by omega⟩ w
    · exact pK60_any a0 ⟨by omega, by omega⟩ a1 ⟨by omega, by omega⟩ w
    · exact pK61_any a0 ⟨by omega, by omega⟩ a1 ⟨by omega, by omega⟩ w
    · exact pK62_any a0 ⟨by omega, by omega⟩ a1 ⟨by omega, by omega⟩ w
    · exact pK63_any a0 ⟨by omega, by omega⟩ a1 ⟨by omega, by omega⟩ w
  · rcases (by omega : a0 = 1 ∨ a0 = 2 ∨ a0 = 3 ∨ a0 = 4 ∨ a0 = 5 ∨ a0 = 6 ∨ a0 = 7 ∨ a0 = 8 ∨ a0 = 9 ∨ a0 = 10 ∨ a0 = 11 ∨ a0 = 12 ∨ a0 = 13 ∨ a0 = 14 ∨ a0 = 15 ∨ a0 = 16 ∨ a0 = 17 ∨ a0 = 18 ∨ a0 = 19 ∨ a0 = 20 ∨ a0 = 21 ∨ a0 = 22 ∨ a0 = 23 ∨ a0 = 24 ∨ a0 = 25 ∨ a0 = 26 ∨ a0 = 27 ∨ a0 = 28 ∨ a0 = 29 ∨ a0 = 30 ∨ a0 = 31 ∨ a0 = 32 ∨ a0 = 33 ∨ a0 = 34 ∨ a0 = 35 ∨ a0 = 36 ∨ a0 = 37 ∨ a0 = 38 ∨ a0 = 39 ∨ a0 = 40 ∨ a0 = 41 ∨ a0 = 42 ∨ a0 = 43 ∨ a0 = 44 ∨ a0 = 45 ∨ a0 = 46 ∨ a0 = 47 ∨ a0 = 48 ∨ a0 = 49 ∨ a0 = 50 ∨ a0 = 51 ∨ a0 = 52 ∨ a0 = 53 ∨ a0 = 54 ∨ a0 = 55 ∨ a0 = 56 ∨ a0 = 57 ∨ a0 = 58 ∨ a0 = 59 ∨ a0 = 60 ∨ a0 = 61 ∨ a0 = 62 ∨ a0 = 63 ∨ a0 = 64) with s | s | s | s | s | s | s | s | s | s | s | s | s | s | s | s | s | s | s | s | s | s | s | s | s | s | s | s | s | s | s | s | s | s | s | s | s | s | s | s | s | s | s | s | s | s | s | s | s | s | s | s | s | s | s | s | s | s | s | s | s | s | s | s
    · exact pN1_any a0 ⟨by omega, by omega⟩ a1 ⟨by omega, by omega⟩ w
    · exact pN2_any a0 ⟨by omega, by omega⟩ a1 ⟨by omega, by omega⟩ w
    · exact pN3_any a0 ⟨by omega, by omega⟩ a1 ⟨by omega, by omega⟩ w
    · exact pN4_any a0 ⟨by omega, by omega⟩ a1 ⟨by omega, by omega⟩ w
    · exact pN5_any a0 ⟨by omega, by omega⟩ a1 ⟨by omega, by omega⟩ w
    · exact pN6_any a0 ⟨by omega, by omega⟩ a1 ⟨by omega, by omega⟩ w
    · exact pN7_any a0 ⟨by omega, by omega⟩ a1 ⟨by omega, by omega⟩ w
    · exact pN8_any a0 ⟨by omega, by omega⟩ a1 ⟨by omega, by omega⟩ w
    · exact pN9_any a0 ⟨by omega, by omega⟩ a1 ⟨by omega, by omega⟩ w
    · exact pN10_any a0 ⟨by omega, by omega⟩ a1 ⟨by omega, by omega⟩ w
    · exact pN11_any a0 ⟨by omega, by omega⟩ a1 ⟨by omega, by omega⟩ w
    · exact pN12_any a0 ⟨by omega, by omega⟩ a1 ⟨by omega, by omega⟩ w
    · exact pN13_any a0 ⟨by omega, by omega⟩ a1 ⟨by omega, by omega⟩ w
    · exact pN14_any a0 ⟨by omega, by omega⟩ a1 ⟨by omega, by omega⟩ w
    · exact pN15_any a0 ⟨by omega, by omega⟩ a1 ⟨by omega, by omega⟩ w
    · exact pN16_any a0 ⟨by omega, by omega⟩ a1 ⟨by omega, by omega⟩ w
    · exact pN17_any a0 ⟨by omega, by omega⟩ a1 ⟨by omega, by omega⟩ w
    · exact pN18_any a0 ⟨by omega, by omega⟩ a1 ⟨by omega, by omega⟩ w
    · exact pN19_any a0 ⟨by omega, by omega⟩ a1 ⟨by omega, by omega⟩ w
    · exact pN20_any a0 ⟨by omega, by omega⟩ a1 ⟨by omega, by omega⟩ w
    · exact pN21_any a0 ⟨by omega, by omega⟩ a1 ⟨by omega, by omega⟩ w
    · exact pN22_any a0 ⟨by omega, by omega⟩ a1 ⟨by omega, by omega⟩ w
    · exact pN23_any a0 ⟨by omega, by omega⟩ a1 ⟨by omega, by omega⟩ w
    · exact pN24_any a0 ⟨by omega, by omega⟩ a1 ⟨by omega, by omega⟩ w
    · exact pN25_any a0 ⟨by omega, by omega⟩ a1 ⟨by omega, by omega⟩ w
    · exact pN26_any a0 ⟨by omega, by omega⟩ a1 ⟨by omega, by omega⟩ w
    · exact pN27_any a0 ⟨by omega, by omega⟩ a1 ⟨by omega, by omega⟩ w
    · exact pN28_any a0 ⟨by omega, by omega⟩ a1 ⟨by omega, by omega⟩ w
    · exact pN29_any a0 ⟨by omega, by omega⟩ a1 ⟨by omega, by omega⟩ w
    · exact pN30_any a0 ⟨by omega, by omega⟩ a1 ⟨by omega, by omega⟩ w
    · exact pN31_any a0 ⟨by omega, by omega⟩ a1 ⟨by omega, by omega⟩ w
    · exact pN32_any a0 ⟨by omega, by omega⟩ a1 ⟨by omega, by omega⟩ w
    · exact pN33_any a0 ⟨by omega, by omega⟩ a1 ⟨by omega, by omega⟩ w
    · exact pN34_any a0 ⟨by omega, by omega⟩ a1 ⟨by omega, by omega⟩ w
    · exact pN35_any a0 ⟨by omega, by omega⟩ a1 ⟨by omega, by omega⟩ w
    · exact pN36_any a0 ⟨by omega, by omega⟩ a1 ⟨by omega, by omega⟩ w
    · exact pN37_any a0 ⟨by omega, by omega⟩ a1 ⟨by omega, by omega⟩ w
    · exact pN38_any a0 ⟨by omega, by omega⟩ a1 ⟨by omega, by omega⟩ w
    · exact pN39_any a0 ⟨by omega, by omega⟩ a1 ⟨by omega, by omega⟩ w
    · exact pN40_any a0 ⟨by omega, by omega⟩ a1 ⟨by omega, by omega⟩ w
    · exact pN41_any a0 ⟨by omega, by omega⟩ a1 ⟨by omega, by omega⟩ w
    · exact pN42_any a0 ⟨by omega, by omega⟩ a1 ⟨by omega, by omega⟩ w
    · exact pN43_any a0 ⟨by omega, by omega⟩ a1 ⟨by omega, by omega⟩ w
    · exact pN44_any a0 ⟨by omega, by omega⟩ a1 ⟨by omega, by omega⟩ w
    · exact pN45_any a0 ⟨by omega, by omega⟩ a1 ⟨by omega, by omega⟩ w
    · exact pN46_any a0 ⟨by omega, by omega⟩ a1 ⟨by omega, by omega⟩ w
    · exact pN47_any a0 ⟨by omega, by omega⟩ a1 ⟨by omega, by omega⟩ w
    · exact pN48_any a0 ⟨by omega, by omega⟩ a1 ⟨by omega, by omega⟩ w
    · exact pN49_any a0 ⟨by omega, by omega⟩ a1 ⟨by omega, by omega⟩ w
    · exact pN50_any a0 ⟨by omega, by omega⟩ a1 ⟨by omega, by omega⟩ w
    · exact pN51_any a0 ⟨by omega, by omega⟩ a1 ⟨by omega, by omega⟩ w
    · exact pN52_any a0 ⟨by omega, by omega⟩ a1 ⟨by omega, by omega⟩ w
    · exact pN53_any a0 ⟨by omega, by omega⟩ a1 ⟨by omega, by omega⟩ w
    · exact pN54_any a0 ⟨by omega, by omega⟩ a1 ⟨by omega, by omega⟩ w
    · exact pN55_any a0 ⟨by omega, by omega⟩ a1 ⟨by omega, by omega⟩ w
    · exact pN56_any a0 ⟨by omega, by omega⟩ a1 ⟨by omega, by omega⟩ w
    · exact pN57_any a0 ⟨by omega, by omega⟩ a1 ⟨by omega, by omega⟩ w
    · exact pN58_any a0 ⟨by omega, by omega⟩ a1 ⟨by omega, by omega⟩ w
    · exact pN59_any a0 ⟨by omega, by omega⟩ a1 ⟨by omega, by omega⟩ w
    · exact pN60_any a0 ⟨by omega, by omega⟩ a1 ⟨by omega, by omega⟩ w
    · exact pN61_any a0 ⟨by omega, by omega⟩ a1 ⟨by omega, by omega⟩ w
    · exact pN62_any a0 ⟨by omega, by omega⟩ a1 ⟨by omega, by omega⟩ w
    · exact pN63_any a0 ⟨by omega, by omega⟩ a1 ⟨by omega, by omega⟩ w
    · exact pN64_any a0 ⟨by omega, by omega⟩ a1 ⟨by omega, by omega⟩ w

set_option maxRecDepth 100000 in
theorem lifted (os : Os) (started : os.Started) (H : Type) (enc : TypeId × Value → H) :
    ReturnsInHanded {} Tryz.checked os 6 .any (Rows.sockRoomSpec.pre6 enc Tryz.prog Tryz.f6 Rows.sockRoomRow.domain false) (Rows.sockRoomSpec.post enc Tryz.prog Tryz.f6 false true false false) := by
  refine returnsInHanded_of_change (C := Tryz.checked) own started (by kernel_rfl) Tryz.func6
    (ChangeSpec.witness6 (enc := enc) (C := Tryz.checked) false ⟨#[], #[.int .i64 0, .int .i64 0], []⟩ 8 (by kernel_rfl) (by kernel_rfl) (by kernel_rfl) (by kernel_rfl)) ?_
  intro W base args ds gs before hval0 hW hcnd _
  have hval : ∀ (j : Nat) t v, Tryz.f6.params[j]? = some t → args[j]? = some v → Value.okWide Tryz.prog W .any base t v := hval0
  have hW' := hW
  obtain ⟨p, q, hA0, hV, rfl, hfz, hnd⟩ := hW
  have hA : DataW.TrodAll enc Tryz.prog W 0 (fun _ => true) true Tryz.f6.params.toList args.toList ds p := hA0
  rw [Tryz.params6] at hA hval
  obtain ⟨v0, vs0, d0, ds0, p_0, q0, hargs, rfl, rfl, k0, r0⟩ := trodAll_cons hA
  obtain ⟨v1, vs1, d1, ds1, p_1, q1, rfl, rfl, rfl, k1, r1⟩ := trodAll_cons r0
  obtain ⟨rfl, rfl, rfl⟩ := trodAll_nil r1
  obtain rfl : args = #[v0, v1] := by cases args; simp_all
  obtain ⟨rfl, rfl⟩ := trodVars_none hV
  have lt0 : ∀ x ∈ p_0, x.block < W.heap.size := by obtain ⟨m, hm⟩ := k0; exact DataW.trod_lt m _ _ _ hm
  have lt1 : ∀ x ∈ p_1, x.block < W.heap.size := by obtain ⟨m, hm⟩ := k1; exact DataW.trod_lt m _ _ _ hm
  obtain ⟨a0, rfl, hh0⟩ := open_int (hval 0 3 v0 rfl rfl)
  obtain ⟨a1, rfl, hh1⟩ := open_int (hval 1 3 v1 rfl rfl)
  clear hA0 hval0
  refine (walk a0 hh0 a1 hh1 W).mono fun e W' ⟨he, hg⟩ => ?_
  subst he
  have bel := hg.below0
  exact ⟨_, rfl, _, _, _, [], _, [], hW', trodAll_mk1 (shut_bool Tryz.underlying4 _), (trodAll_cons_mk (Below.trod laid_out (by kernel_rfl) (of_decide_eq_true (by kernel_rfl)) k0 bel lt0) (trodAll_cons_mk (Below.trod laid_out (by kernel_rfl) (of_decide_eq_true (by kernel_rfl)) k1 bel lt1) trodAll_mk0)), rfl, bel.frame _, fun h => by cases h⟩

theorem over : Rows.sockRoomRow.holds Tryz.pinned (OpenSpec.ofChange Rows.sockRoomSpec) :=
  OpenClaim.holds_of_wide 6 Tryz.f6 rfl rfl rfl rfl rfl rfl rfl ⟨rfl, rfl, rfl, rfl, rfl⟩ rfl rfl rfl rfl rfl j_func Tryz.func6 joined
    (of_decide_eq_true (by kernel_rfl)) (by unfold Func.isWrapper; first | (rw [if_pos (by decide +kernel)]; kernel_rfl) | (rw [if_neg (by decide +kernel)]; exact ⟨rfl, rfl⟩))
    (fun os started H enc _ => lifted os started H enc)

theorem proved : Rows.SockRoomSaid := over
end Go.Proofs.YtggoagemdhflfaaGreat.sockRoom

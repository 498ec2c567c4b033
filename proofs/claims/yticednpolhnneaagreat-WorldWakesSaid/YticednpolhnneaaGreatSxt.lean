/-
  octet.fold, known ahead.
-/
import Derived.Test.YticednpolhnneaaGreatSxz
import Derived.Test.YticednpolhnneaaGreatProg
set_option linter.unusedVariables false
set_option linter.unusedSimpArgs false
namespace Go.Proofs.YticednpolhnneaaGreat
open Go Go.RowKit

theorem and16 (n : Int) : bits BinOp.and .i64 n 65535 = n % 65536 := by
  have h255 : (BitVec.ofInt 64 65535).toNat = 2 ^ 16 - 1 := by decide
  have key : (BitVec.ofInt 64 n &&& BitVec.ofInt 64 65535).toNat = (n % ((2 ^ 64 : Nat) : Int)).toNat % 2 ^ 16 := by
    rw [BitVec.toNat_and, BitVec.toNat_ofInt, h255, Nat.and_two_pow_sub_one_eq_mod]
  show IntKind.i64.wrap ((BitVec.ofInt 64 n &&& BitVec.ofInt 64 65535).toNat : Nat) = n % 65536
  rw [key, IntKind.wrap_i64]
  omega
theorem wrap64_eq (n : Int) : wrap64 n = (n + 9223372036854775808) % 18446744073709551616 - 9223372036854775808 := by unfold wrap64; rfl
theorem foldZ_step {n : Int} (h : 65535 < n) : foldZ n = foldZ ((n % 65536 + n / 65536 + 9223372036854775808) % 18446744073709551616 - 9223372036854775808) := by
  conv => lhs; rw [foldZ]
  rw [if_pos h]
theorem foldZ_end {n : Int} (h : ¬ 65535 < n) : foldZ n = n := by
  rw [foldZ, if_neg h]
theorem foldZ_less {n : Int} (h : 65535 < n) : (if ((n % 65536 + n / 65536 + 9223372036854775808) % 18446744073709551616 - 9223372036854775808) < 9223372036854775808 then ((n % 65536 + n / 65536 + 9223372036854775808) % 18446744073709551616 - 9223372036854775808).toNat else 18446744073709551616) < if n < 9223372036854775808 then n.toNat else 18446744073709551616 := by
  by_cases hn : n < 9223372036854775808
  · have h1 : 0 ≤ n % 65536 + n / 65536 := by omega
    have h2 : n % 65536 + n / 65536 < n := by omega
    rw [Int.emod_eq_of_lt (by omega) (by omega)]
    rw [if_pos (by omega), if_pos hn]
    omega
  · rw [if_neg hn]
    split <;> omega
theorem fold_any (n : Int) (w : World) : Calls Tryz.prog 195 #[.int .i64 n] w fun e w' => e = .returned (.int .i64 (foldZ n)) ∧ Kp [] w w' := by
  go_enter Tryz.func195, Tryz.ntmps195
  go_wp2_with fail
  go_loopw [0] (fun i wr => wr = w ∧ ∃ m : Int, i = .int .i64 m ∧ foldZ m = foldZ n) (fun i _ => if intOf i < 9223372036854775808 then (intOf i).toNat else 18446744073709551616)
  case atStart => exact ⟨rfl, n, rfl, rfl⟩
  case round =>
    obtain ⟨rfl, m, rfl, hm⟩ := hrel
    go_wp2
    · rename_i hgt
      go_roundw
      case rel => exact ⟨by first | rfl | trivial, _, rfl, by rw [← hm, foldZ_step (n := m) hgt, and16, wrap64_eq]⟩
      case measure =>
        rw [and16, wrap64_eq]
        simp only [intOf]
        exact foldZ_less hgt
    · exact bodyPost_ret (results_tmp rfl _ _ _) rfl ⟨by rw [← hm, foldZ_end (by omega)]; rfl, .refl _ _⟩
end Go.Proofs.YticednpolhnneaaGreat

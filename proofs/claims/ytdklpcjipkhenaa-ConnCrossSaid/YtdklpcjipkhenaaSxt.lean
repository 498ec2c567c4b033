/-
  octet.fold, known ahead.
-/
import Derived.Test.YtdklpcjipkhenaaSxs
import Derived.Test.YtdklpcjipkhenaaProg
set_option linter.unusedVariables false
set_option linter.unusedSimpArgs false
namespace Go.Proofs.Ytdklpcjipkhenaa
open Go Go.RowKit

theorem and16 (n : Int) : bits BinOp.and .i64 n 65535 = n % 65536 := by
  have h255 : (BitVec.ofInt 64 65535).toNat = 2 ^ 16 - 1 := by decide
  have key : (BitVec.ofInt 64 n &&& BitVec.ofInt 64 65535).toNat = (n % ((2 ^ 64 : Nat) : Int)).toNat % 2 ^ 16 := by
    rw [BitVec.toNat_and, BitVec.toNat_ofInt, h255, Nat.and_two_pow_sub_one_eq_mod]
  show IntKind.i64.wrap ((BitVec.ofInt 64 n &&& BitVec.ofInt 64 65535).toNat : Nat) = n % 65536
  rw [key, IntKind.wrap_i64]
  omega
theorem wrap64_eq (n : Int) : wrap64 n = (n + 9223372036854775808) % 18446744073709551616 - 9223372036854775808 := by unfold wrap64; rfl
theorem foldZ_step {n : Int} (h : 65535 < n) : foldZ n = foldZ ((n % 65536 + n / 65536 + 9223372036854775808) % 18446744073709551616 - 9223372036854775808) := by
  conv => lhs; rw [foldZ]
  rw [if_pos h]
theorem foldZ_end {n : Int} (h : ¬ 65535 < n) : foldZ n = n := by
  rw [foldZ, if_neg h]
theorem foldZ_less {n : Int} (h : 65535 < n) : (if ((n % 65536 + n / 65536 + 9223372036854775808) % 18446744073709551616 - 9223372036854775808) < 9223372036854775808 then ((n % 65536 + n / 65536 + 9223372036854775808) % 18446744073709551616 - 9223372036854775808).toNat else 18446744073709551616) < if n < 9223372036854775808 then n.toNat else 18446744073709551616 := by
  by_cases hn : n < 9223372036854775808
  · have h1 : 0 ≤ n % 65536 + n / 65536 := by omega
    have h2 : n % 65536 + n / 65536 < n := by omega
    rw [Int.emod_eq_of_lt (by omega) (by omega)]
    rw [if_pos (by omega), if_pos hn]
    omega
  · rw [if_neg hn]
    split <;> omega
theorem fold_any (n : Int) (w : World) : Calls Try.prog 117 #[.int .i64 n] w fun e w' => e = .returned (.int .i64 (foldZ n)) ∧ Kp [] w w' := by
  go_enter Try.func117, Try.ntmps117
  go_wp2_with fail
  go_loopw [0] (fun i wr => wr = w ∧ ∃ m : Int, i = .int .i64 m ∧ foldZ m = foldZ n) (fun i _ => if intOf i < 9223372036854775808 then (intOf i).toNat else 18446744073709551616)
  case atStart => exact ⟨rfl, n, rfl, rfl⟩
  case round =>
    obtain ⟨rfl, m, rfl, hm⟩ := hrel
    go_wp2
    · rename_i hgt
      go_roundw
      case rel => exact ⟨by first | rfl | trivial, _, rfl, by rw [← hm, foldZ_step (n := m) hgt, and16, wrap64_eq]⟩
      case measure =>
        rw [and16, wrap64_eq]
        simp only [intOf]
        exact foldZ_less hgt
    · exact bodyPost_ret (results_tmp rfl _ _ _) rfl ⟨by rw [← hm, foldZ_end (by omega)]; rfl, .refl _ _⟩
theorem fold_enter (n : Int) (w : World) : (callFunc 117 #[.int .i64 n]).run Try.prog w = .ok (.enter 117 #[.int .i64 n]) w := by
  unfold callFunc
  rw [Sem.run_bind]
  have h1 : (Try.f117.name == "runtime.NumGoroutine") = false := by kernel_rfl
  have h2 : Try.f117.body.isNone = false := by kernel_rfl
  simp only [program, Sem.run, Result.andThen_ok, Try.func117, h1, h2, Bool.false_eq_true, if_false]
  rfl

/-- a sum with letters in it -/
noncomputable def sumFold : List AV → Option AV
  | [.int .i64 (.lit _)] => none
  | [.int .i64 e] => some (.int .i64 (.fold e))
  | _ => none
noncomputable def sums0 : Sums := fun f l => Bool.rec (motive := fun _ => Option AV) none (sumFold l) (Nat.beq f 117)
theorem sumFold_ok {l : List AV} {v : AV} (h : sumFold l = some v) {φ : List Pl} {ρ : Nat → Int} {xs : List Value} (w : World) (hx : concL φ ρ l = some xs) : (callFunc 117 xs.toArray).run Try.prog w = .ok (.enter 117 xs.toArray) w ∧ ∃ x, conc φ ρ v = some x ∧ Calls Try.prog 117 xs.toArray w fun e w' => e = .returned x ∧ Kp [] w w' := by
  unfold sumFold at h
  split at h
  · cases h
  · cases h
    obtain ⟨x, ys, h1, h2, rfl⟩ := concL_cons.1 hx
    simp only [concL, conc, Option.some.injEq] at h1 h2
    subst h1; subst h2
    exact ⟨fold_enter _ w, _, rfl, fold_any _ w⟩
  · cases h
theorem sums0_ok : SumsOk Try.prog sums0 := by
  intro f args v h φ ρ xs w hx
  unfold sums0 at h
  cases hf : Nat.beq f 117 with
  | false => rw [hf] at h; cases h
  | true =>
    rw [hf] at h
    rw [natBeq] at hf
    have hf := of_decide_eq_true hf
    subst hf
    exact sumFold_ok h w hx
end Go.Proofs.Ytdklpcjipkhenaa

/-
  known of wharftop, and what is known of it ahead.
-/
import Derived.Test.YtnhpfkjblnclnaaGreatSgKTS
import Derived.Test.YtnhpfkjblnclnaaGreatCf
import Derived.Test.YtnhpfkjblnclnaaGreatCe
import Derived.Test.YtnhpfkjblnclnaaGreatPlsOk
set_option linter.unusedVariables false
set_option linter.unusedSimpArgs false
namespace Go.Proofs.YtnhpfkjblnclnaaGreat
open Go

set_option maxRecDepth 1000000 in
theorem kT_ok : okT2 0 (.ofNat 0) 0 (isB true) (evCall Tryz.prog plans ktop.sumsG 100000 31 [] (s0 [] [[]] []) finK) [] = true := by kernel_rfl
theorem kT_any (w : World) : Calls Tryz.prog 31 #[] w fun e w' => e = .returned (.bool true) ∧ Kp [] w w' :=
  run_bool2 follows_mixed plans_ok ktop.sumsG_ok kT_ok (fun _ => 0) rgOk_nil (.inl rfl) (xs := []) rfl w
noncomputable def kT_sum : List AV → Option AV
  | [] => some (.bool (.lit true))
  | _ => none
theorem kT_sum_ok : PureOk Tryz.prog 31 kT_sum := by
  intro l v h φ ρ xs w hx
  cases l with
  | nil =>
    cases h
    simp only [concL, Option.some.injEq] at hx
    subst hx
    exact ⟨_, rfl, kT_any w⟩
  | cons a l => cases h
/-- and known -/
noncomputable def sumsKT : Sums := sumOr (sumPure 31 kT_sum) sumsQ
theorem sumsKT_ok : SumsOk Tryz.prog sumsKT := sumOr_ok (sumPure_ok (enter_of Tryz.func31 (by kernel_rfl) (by kernel_rfl)) kT_sum_ok) sumsQ_ok

end Go.Proofs.YtnhpfkjblnclnaaGreat

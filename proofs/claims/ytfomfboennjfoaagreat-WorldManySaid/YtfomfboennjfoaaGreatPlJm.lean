/-
  Idle ticks of joined, taken at once.
-/
import Derived.Test.YtfomfboennjfoaaGreatPlsOk
import Derived.Test.YtfomfboennjfoaaGreatCe
set_option linter.unusedVariables false
set_option linter.unusedSimpArgs false
namespace Go.Proofs.YtfomfboennjfoaaGreat
open Go

noncomputable def plansJm : Plans := { plans with ad := [⟨27, 39, [0, 4, 5, 6, 7], [⟨true, 8, 0, .i64, 29, .bin .add .i64 (.var 29) (.lit (.negSucc 0)), 39, 1, 100000⟩, ⟨false, 6, 2, .i64, 30, .bin .add .i64 (.var 30) (.lit (.ofNat 1)), 1, 1, 40⟩, ⟨false, 6, 3, .u32, 31, (.bin .and .u32 (.bin .add .u32 (.bin .mul .u32 (.bin .and .u32 (.bin .add .u32 (.bin .mul .u32 (.var 31) (.lit (.ofNat 1103515245))) (.lit (.ofNat 12345))) (.lit (.ofNat 2147483647))) (.lit (.ofNat 1103515245))) (.lit (.ofNat 12345))) (.lit (.ofNat 2147483647))), 836760821, 0, 2147483647⟩]⟩] }
theorem plansJm_ok : PlansOk Tryz.prog plansJm := plansOk_ac plans_ok rfl (fun a ha => by cases ha)

end Go.Proofs.YtfomfboennjfoaaGreat

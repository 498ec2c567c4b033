/-
  WorldBoth: runs.
-/
import Derived.Test.YtfomfboennjfoaaGreatPrB
import Derived.Test.YtfomfboennjfoaaGreatPlB
import Derived.Test.YtfomfboennjfoaaGreatSgX
set_option linter.unusedVariables false
set_option linter.unusedSimpArgs false
namespace Go.Proofs.YtfomfboennjfoaaGreat.worldBoth
open Go

set_option maxRecDepth 1000000 in
theorem pM3a2a_ok : okT2 0 (.ofNat 0) 0 (isB true) (evCall Tryz.prog plansB2a3a sums3a2a 100000 6 argsB (s0 pm3a2a [[]] (rgB (padR (some (.ofNat 2920))) (padR (some (.ofNat 1460))) (.ofNat 2921) (.ofNat 4000) (.ofNat 1461) (.ofNat 2919))) finK) pm3a2a = true := by kernel_rfl
set_option maxRecDepth 1000000 in
theorem pM2a1c_ok : okT2 0 (.ofNat 0) 0 (isB true) (evCall Tryz.prog plansB12a sums2a1 100000 6 argsB (s0 pm2a1 [[]] (rgB (padR (some (.ofNat 1460))) (padR (some (.ofNat 0))) (.ofNat 1461) (.ofNat 2919) (.ofNat 1460) (.ofNat 1460))) finK) pm2a1 = true := by kernel_rfl
set_option maxRecDepth 1000000 in
theorem pM3a1c_ok : okT2 0 (.ofNat 0) 0 (isB true) (evCall Tryz.prog plansB13a sums3a1 100000 6 argsB (s0 pm3a1 [[]] (rgB (padR (some (.ofNat 2920))) (padR (some (.ofNat 0))) (.ofNat 2921) (.ofNat 4000) (.ofNat 1460) (.ofNat 1460))) finK) pm3a1 = true := by kernel_rfl
set_option maxRecDepth 1000000 in
theorem pM1c1a_ok : okT2 0 (.ofNat 0) 0 (isB true) (evCall Tryz.prog plansB11 sums11 100000 6 argsB (s0 pm11 [[]] (rgB (padR (some (.ofNat 0))) (padR (some (.ofNat 0))) (.ofNat 1460) (.ofNat 1460) (.ofNat 1) (.ofNat 1456))) finK) pm11 = true := by kernel_rfl
set_option maxRecDepth 1000000 in
theorem pM2c1a_ok : okT2 0 (.ofNat 0) 0 (isB true) (evCall Tryz.prog plansB12c sums2c1 100000 6 argsB (s0 pm2c1 [[]] (rgB (padR none) (padR (some (.ofNat 0))) (.ofNat 2920) (.ofNat 2920) (.ofNat 1) (.ofNat 1456))) finK) pm2c1 = true := by kernel_rfl
set_option maxRecDepth 1000000 in
theorem pM3h3l_ok : okT2 0 (.ofNat 0) 0 (isB true) (evCall Tryz.prog plansB3a3a sumsX 100000 6 argsB (s0 pm3a3a [[]] (rgB (padR (some (.ofNat 2920))) (padR (some (.ofNat 2920))) (.ofNat 3365) (.ofNat 4000) (.ofNat 2921) (.ofNat 3364))) finK) pm3a3a = true := by kernel_rfl

end Go.Proofs.YtfomfboennjfoaaGreat.worldBoth

/-
  WorldBoth: runs.
-/
import Derived.Test.YtfomfboennjfoaaGreatPrB
import Derived.Test.YtfomfboennjfoaaGreatPlB
import Derived.Test.YtfomfboennjfoaaGreatSgX
set_option linter.unusedVariables false
set_option linter.unusedSimpArgs false
namespace Go.Proofs.YtfomfboennjfoaaGreat.worldBoth
open Go

set_option maxRecDepth 1000000 in
theorem pM2a2a_ok : okT2 0 (.ofNat 0) 0 (isB true) (evCall Tryz.prog plansB2a2a sums2a2a 100000 6 argsB (s0 pm2a2a [[]] (rgB (padR (some (.ofNat 1460))) (padR (some (.ofNat 1460))) (.ofNat 1461) (.ofNat 2919) (.ofNat 1461) (.ofNat 2919))) finK) pm2a2a = true := by kernel_rfl
set_option maxRecDepth 1000000 in
theorem pM2a1a_ok : okT2 0 (.ofNat 0) 0 (isB true) (evCall Tryz.prog plansB12a sums2a1 100000 6 argsB (s0 pm2a1 [[]] (rgB (padR (some (.ofNat 1460))) (padR (some (.ofNat 0))) (.ofNat 1461) (.ofNat 2919) (.ofNat 1) (.ofNat 1456))) finK) pm2a1 = true := by kernel_rfl
set_option maxRecDepth 1000000 in
theorem pM3a1a_ok : okT2 0 (.ofNat 0) 0 (isB true) (evCall Tryz.prog plansB13a sums3a1 100000 6 argsB (s0 pm3a1 [[]] (rgB (padR (some (.ofNat 2920))) (padR (some (.ofNat 0))) (.ofNat 2921) (.ofNat 4000) (.ofNat 1) (.ofNat 1456))) finK) pm3a1 = true := by kernel_rfl
set_option maxRecDepth 1000000 in
theorem pM1b1b_ok : okT2 0 (.ofNat 0) 0 (isB true) (evCall Tryz.prog plansB11 sums11 100000 6 argsB (s0 pm11 [[]] (rgB (padR (some (.ofNat 0))) (padR (some (.ofNat 0))) (.ofNat 1457) (.ofNat 1459) (.ofNat 1457) (.ofNat 1459))) finK) pm11 = true := by kernel_rfl
set_option maxRecDepth 1000000 in
theorem pM1b2c_ok : okT2 0 (.ofNat 0) 0 (isB true) (evCall Tryz.prog plansB12c sums12c 100000 6 argsB (s0 pm12c [[]] (rgB (padR (some (.ofNat 0))) (padR none) (.ofNat 1457) (.ofNat 1459) (.ofNat 2920) (.ofNat 2920))) finK) pm12c = true := by kernel_rfl
set_option maxRecDepth 1000000 in
theorem pM3l3l_ok : okT2 0 (.ofNat 0) 0 (isB true) (evCall Tryz.prog plansB3a3a sumsX 100000 6 argsB (s0 pm3a3a [[]] (rgB (padR (some (.ofNat 2920))) (padR (some (.ofNat 2920))) (.ofNat 2921) (.ofNat 3364) (.ofNat 2921) (.ofNat 3364))) finK) pm3a3a = true := by kernel_rfl

end Go.Proofs.YtfomfboennjfoaaGreat.worldBoth

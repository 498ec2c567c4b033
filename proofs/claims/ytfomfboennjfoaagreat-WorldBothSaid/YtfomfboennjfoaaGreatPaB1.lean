/-
  WorldBoth: runs.
-/
import Derived.Test.YtfomfboennjfoaaGreatPrB
import Derived.Test.YtfomfboennjfoaaGreatPlB
import Derived.Test.YtfomfboennjfoaaGreatSgMS
set_option linter.unusedVariables false
set_option linter.unusedSimpArgs false
namespace Go.Proofs.YtfomfboennjfoaaGreat.worldBoth
open Go

set_option maxRecDepth 1000000 in
theorem pM2a3a_ok : okT2 0 (.ofNat 0) 0 (isB true) (evCall Tryz.prog plansB2a3a sums2a3a 100000 6 argsB (s0 pm2a3a [[]] (rgB (padR (some (.ofNat 1460))) (padR (some (.ofNat 2920))) (.ofNat 1461) (.ofNat 2919) (.ofNat 2921) (.ofNat 4000))) finK) pm2a3a = true := by kernel_rfl
set_option maxRecDepth 1000000 in
theorem pM1c3a_ok : okT2 0 (.ofNat 0) 0 (isB true) (evCall Tryz.prog plansB13a sums13a 100000 6 argsB (s0 pm13a [[]] (rgB (padR (some (.ofNat 0))) (padR (some (.ofNat 2920))) (.ofNat 1460) (.ofNat 1460) (.ofNat 2921) (.ofNat 4000))) finK) pm13a = true := by kernel_rfl
set_option maxRecDepth 1000000 in
theorem pM2c3a_ok : okT2 0 (.ofNat 0) 0 (isB true) (evCall Tryz.prog plansB2c3a sums2c3a 100000 6 argsB (s0 pm2c3a [[]] (rgB (padR none) (padR (some (.ofNat 2920))) (.ofNat 2920) (.ofNat 2920) (.ofNat 2921) (.ofNat 4000))) finK) pm2c3a = true := by kernel_rfl
set_option maxRecDepth 1000000 in
theorem pM1a1b_ok : okT2 0 (.ofNat 0) 0 (isB true) (evCall Tryz.prog plansB11 sums11 100000 6 argsB (s0 pm11 [[]] (rgB (padR (some (.ofNat 0))) (padR (some (.ofNat 0))) (.ofNat 1) (.ofNat 1456) (.ofNat 1457) (.ofNat 1459))) finK) pm11 = true := by kernel_rfl
set_option maxRecDepth 1000000 in
theorem pM1c1b_ok : okT2 0 (.ofNat 0) 0 (isB true) (evCall Tryz.prog plansB11 sums11 100000 6 argsB (s0 pm11 [[]] (rgB (padR (some (.ofNat 0))) (padR (some (.ofNat 0))) (.ofNat 1460) (.ofNat 1460) (.ofNat 1457) (.ofNat 1459))) finK) pm11 = true := by kernel_rfl
set_option maxRecDepth 1000000 in
theorem pM2c1b_ok : okT2 0 (.ofNat 0) 0 (isB true) (evCall Tryz.prog plansB12c sums2c1 100000 6 argsB (s0 pm2c1 [[]] (rgB (padR none) (padR (some (.ofNat 0))) (.ofNat 2920) (.ofNat 2920) (.ofNat 1457) (.ofNat 1459))) finK) pm2c1 = true := by kernel_rfl

end Go.Proofs.YtfomfboennjfoaaGreat.worldBoth

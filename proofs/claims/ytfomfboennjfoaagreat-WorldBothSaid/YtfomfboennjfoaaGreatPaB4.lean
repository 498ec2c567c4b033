/-
  WorldBoth: runs.
-/
import Derived.Test.YtfomfboennjfoaaGreatPrB
import Derived.Test.YtfomfboennjfoaaGreatPlB
import Derived.Test.YtfomfboennjfoaaGreatSgMS
set_option linter.unusedVariables false
set_option linter.unusedSimpArgs false
namespace Go.Proofs.YtfomfboennjfoaaGreat.worldBoth
open Go

set_option maxRecDepth 1000000 in
theorem pM1b2a_ok : okT2 0 (.ofNat 0) 0 (isB true) (evCall Tryz.prog plansB12a sums12a 100000 6 argsB (s0 pm12a [[]] (rgB (padR (some (.ofNat 0))) (padR (some (.ofNat 1460))) (.ofNat 1457) (.ofNat 1459) (.ofNat 1461) (.ofNat 2919))) finK) pm12a = true := by kernel_rfl
set_option maxRecDepth 1000000 in
theorem pM1b3a_ok : okT2 0 (.ofNat 0) 0 (isB true) (evCall Tryz.prog plansB13a sums13a 100000 6 argsB (s0 pm13a [[]] (rgB (padR (some (.ofNat 0))) (padR (some (.ofNat 2920))) (.ofNat 1457) (.ofNat 1459) (.ofNat 2921) (.ofNat 4000))) finK) pm13a = true := by kernel_rfl
set_option maxRecDepth 1000000 in
theorem pM2c2a_ok : okT2 0 (.ofNat 0) 0 (isB true) (evCall Tryz.prog plansB2a2c sums2c2a 100000 6 argsB (s0 pm2c2a [[]] (rgB (padR none) (padR (some (.ofNat 1460))) (.ofNat 2920) (.ofNat 2920) (.ofNat 1461) (.ofNat 2919))) finK) pm2c2a = true := by kernel_rfl
set_option maxRecDepth 1000000 in
theorem pM1a1a_ok : okT2 0 (.ofNat 0) 0 (isB true) (evCall Tryz.prog plansB11 sums11 100000 6 argsB (s0 pm11 [[]] (rgB (padR (some (.ofNat 0))) (padR (some (.ofNat 0))) (.ofNat 1) (.ofNat 1456) (.ofNat 1) (.ofNat 1456))) finK) pm11 = true := by kernel_rfl
set_option maxRecDepth 1000000 in
theorem pM1a1c_ok : okT2 0 (.ofNat 0) 0 (isB true) (evCall Tryz.prog plansB11 sums11 100000 6 argsB (s0 pm11 [[]] (rgB (padR (some (.ofNat 0))) (padR (some (.ofNat 0))) (.ofNat 1) (.ofNat 1456) (.ofNat 1460) (.ofNat 1460))) finK) pm11 = true := by kernel_rfl
set_option maxRecDepth 1000000 in
theorem pM1c1c_ok : okT2 0 (.ofNat 0) 0 (isB true) (evCall Tryz.prog plansB11 sums11 100000 6 argsB (s0 pm11 [[]] (rgB (padR (some (.ofNat 0))) (padR (some (.ofNat 0))) (.ofNat 1460) (.ofNat 1460) (.ofNat 1460) (.ofNat 1460))) finK) pm11 = true := by kernel_rfl
set_option maxRecDepth 1000000 in
theorem pM2c1c_ok : okT2 0 (.ofNat 0) 0 (isB true) (evCall Tryz.prog plansB12c sums2c1 100000 6 argsB (s0 pm2c1 [[]] (rgB (padR none) (padR (some (.ofNat 0))) (.ofNat 2920) (.ofNat 2920) (.ofNat 1460) (.ofNat 1460))) finK) pm2c1 = true := by kernel_rfl

end Go.Proofs.YtfomfboennjfoaaGreat.worldBoth

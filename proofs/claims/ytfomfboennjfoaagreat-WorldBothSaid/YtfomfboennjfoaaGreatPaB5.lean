/-
  WorldBoth: runs.
-/
import Derived.Test.YtfomfboennjfoaaGreatPrB
import Derived.Test.YtfomfboennjfoaaGreatPlB
import Derived.Test.YtfomfboennjfoaaGreatSgMS
set_option linter.unusedVariables false
set_option linter.unusedSimpArgs false
namespace Go.Proofs.YtfomfboennjfoaaGreat.worldBoth
open Go

set_option maxRecDepth 1000000 in
theorem pM1c2a_ok : okT2 0 (.ofNat 0) 0 (isB true) (evCall Tryz.prog plansB12a sums12a 100000 6 argsB (s0 pm12a [[]] (rgB (padR (some (.ofNat 0))) (padR (some (.ofNat 1460))) (.ofNat 1460) (.ofNat 1460) (.ofNat 1461) (.ofNat 2919))) finK) pm12a = true := by kernel_rfl
set_option maxRecDepth 1000000 in
theorem pM1c3a_ok : okT2 0 (.ofNat 0) 0 (isB true) (evCall Tryz.prog plansB13a sums13a 100000 6 argsB (s0 pm13a [[]] (rgB (padR (some (.ofNat 0))) (padR (some (.ofNat 2920))) (.ofNat 1460) (.ofNat 1460) (.ofNat 2921) (.ofNat 4000))) finK) pm13a = true := by kernel_rfl
set_option maxRecDepth 1000000 in
theorem pM2c3a_ok : okT2 0 (.ofNat 0) 0 (isB true) (evCall Tryz.prog plansB2c3a sums2c3a 100000 6 argsB (s0 pm2c3a [[]] (rgB (padR none) (padR (some (.ofNat 2920))) (.ofNat 2920) (.ofNat 2920) (.ofNat 2921) (.ofNat 4000))) finK) pm2c3a = true := by kernel_rfl
set_option maxRecDepth 1000000 in
theorem pM1a1b_ok : okT2 0 (.ofNat 0) 0 (isB true) (evCall Tryz.prog plansB11 sums11 100000 6 argsB (s0 pm11 [[]] (rgB (padR (some (.ofNat 0))) (padR (some (.ofNat 0))) (.ofNat 1) (.ofNat 1456) (.ofNat 1457) (.ofNat 1459))) finK) pm11 = true := by kernel_rfl
set_option maxRecDepth 1000000 in
theorem pM1b1a_ok : okT2 0 (.ofNat 0) 0 (isB true) (evCall Tryz.prog plansB11 sums11 100000 6 argsB (s0 pm11 [[]] (rgB (padR (some (.ofNat 0))) (padR (some (.ofNat 0))) (.ofNat 1457) (.ofNat 1459) (.ofNat 1) (.ofNat 1456))) finK) pm11 = true := by kernel_rfl
set_option maxRecDepth 1000000 in
theorem pM1a2c_ok : okT2 0 (.ofNat 0) 0 (isB true) (evCall Tryz.prog plansB12c sums12c 100000 6 argsB (s0 pm12c [[]] (rgB (padR (some (.ofNat 0))) (padR none) (.ofNat 1) (.ofNat 1456) (.ofNat 2920) (.ofNat 2920))) finK) pm12c = true := by kernel_rfl
set_option maxRecDepth 1000000 in
theorem pM2c2c_ok : okT2 0 (.ofNat 0) 0 (isB true) (evCall Tryz.prog plansB2c2c sums2c2c 100000 6 argsB (s0 pm2c2c [[]] (rgB (padR none) (padR none) (.ofNat 2920) (.ofNat 2920) (.ofNat 2920) (.ofNat 2920))) finK) pm2c2c = true := by kernel_rfl

end Go.Proofs.YtfomfboennjfoaaGreat.worldBoth

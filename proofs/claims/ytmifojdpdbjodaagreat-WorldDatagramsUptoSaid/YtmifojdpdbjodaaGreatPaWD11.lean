/-
  WorldDatagrams: runs.
-/
import Derived.Test.YtmifojdpdbjodaaGreatWdp
set_option linter.unusedVariables false
set_option linter.unusedSimpArgs false
namespace Go.Proofs.YtmifojdpdbjodaaGreat
open Go

set_option maxRecDepth 1000000
theorem e_I : okX patI 0 0 = true := by kernel_rfl
theorem r_0_7 : okF (patW 0) 1 pp7 1 9 8873 10352 25 = true := by kernel_rfl
theorem r_1_11 : okF (patW 1) 2 pp11 1 9 14793 16272 25 = true := by kernel_rfl
theorem r_1_2 : okF (patW 1) 2 pp2 1 9 1473 2952 25 = true := by kernel_rfl
theorem e_3 : okX (patW 3) 1 10 = true := by kernel_rfl
theorem r_5_6 : okF (patW 5) 6 pp6 1 9 7393 8872 25 = true := by kernel_rfl
theorem e_7 : okX (patW 7) 1 10 = true := by kernel_rfl
theorem r_9_0n : okN (patW 9) 9 1 9 = true := by kernel_rfl
theorem r_9_2 : okF (patW 9) 10 pp2 1 9 1473 2952 25 = true := by kernel_rfl
theorem e_13 : okX (patW 13) 1 10 = true := by kernel_rfl

end Go.Proofs.YtmifojdpdbjodaaGreat

/-
  WorldDatagrams: runs.
-/
import Derived.Test.YtmifojdpdbjodaaGreatWdp
set_option linter.unusedVariables false
set_option linter.unusedSimpArgs false
namespace Go.Proofs.YtmifojdpdbjodaaGreat
open Go

set_option maxRecDepth 1000000
theorem e_1 : okX (patW 1) 1 10 = true := by kernel_rfl
theorem r_2_7 : okF (patW 2) 3 pp7 1 9 8873 10352 25 = true := by kernel_rfl
theorem r_3_11 : okF (patW 3) 4 pp11 1 9 14793 16272 25 = true := by kernel_rfl
theorem r_3_2 : okF (patW 3) 4 pp2 1 9 1473 2952 25 = true := by kernel_rfl
theorem e_5 : okX (patW 5) 1 10 = true := by kernel_rfl
theorem r_7_6 : okF (patW 7) 8 pp6 1 9 7393 8872 25 = true := by kernel_rfl
theorem e_9 : okX (patW 9) 1 10 = true := by kernel_rfl
theorem r_10_0n : okN (patW 10) 10 1 9 = true := by kernel_rfl
theorem r_11_2 : okF (patW 11) 12 pp2 1 9 1473 2952 25 = true := by kernel_rfl

end Go.Proofs.YtmifojdpdbjodaaGreat

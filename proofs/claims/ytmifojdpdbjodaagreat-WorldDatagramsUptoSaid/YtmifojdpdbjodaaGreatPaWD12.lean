/-
  WorldDatagrams: runs.
-/
import Derived.Test.YtmifojdpdbjodaaGreatWdp
set_option linter.unusedVariables false
set_option linter.unusedSimpArgs false
namespace Go.Proofs.YtmifojdpdbjodaaGreat
open Go

set_option maxRecDepth 1000000
theorem e_0 : okX (patW 0) 1 10 = true := by kernel_rfl
theorem r_1_7 : okF (patW 1) 2 pp7 1 9 8873 10352 25 = true := by kernel_rfl
theorem r_2_11 : okF (patW 2) 3 pp11 1 9 14793 16272 25 = true := by kernel_rfl
theorem r_2_2 : okF (patW 2) 3 pp2 1 9 1473 2952 25 = true := by kernel_rfl
theorem e_4 : okX (patW 4) 1 10 = true := by kernel_rfl
theorem r_6_6 : okF (patW 6) 7 pp6 1 9 7393 8872 25 = true := by kernel_rfl
theorem e_8 : okX (patW 8) 1 10 = true := by kernel_rfl
theorem r_10_0a : okZ (patW 10) 10 1 9 = true := by kernel_rfl
theorem r_10_2 : okF (patW 10) 11 pp2 1 9 1473 2952 25 = true := by kernel_rfl

end Go.Proofs.YtmifojdpdbjodaaGreat

/-
  WorldDatagrams: runs.
-/
import Derived.Test.YtmifojdpdbjodaaGreatWdp
set_option linter.unusedVariables false
set_option linter.unusedSimpArgs false
namespace Go.Proofs.YtmifojdpdbjodaaGreat
open Go

set_option maxRecDepth 1000000
theorem r_I_0b : okF patI 0 [] 0 0 0 0 0 = true := by kernel_rfl
theorem r_I_9 : okF patI 1 pp9 0 0 11833 13312 25 = true := by kernel_rfl
theorem r_2_0a : okZ (patW 2) 2 1 9 = true := by kernel_rfl
theorem r_3_9 : okF (patW 3) 4 pp9 1 9 11833 13312 25 = true := by kernel_rfl
theorem r_4_1 : okF (patW 4) 4 pp1 1 9 1 1472 17 = true := by kernel_rfl
theorem r_4_2 : okF (patW 4) 5 pp2 1 9 1473 2952 25 = true := by kernel_rfl
theorem r_8_6 : okF (patW 8) 9 pp6 1 9 7393 8872 25 = true := by kernel_rfl
theorem e_11 : okX (patW 11) 1 10 = true := by kernel_rfl

end Go.Proofs.YtmifojdpdbjodaaGreat

/-
  WorldDatagrams: runs.
-/
import Derived.Test.YtmifojdpdbjodaaGreatWdp
set_option linter.unusedVariables false
set_option linter.unusedSimpArgs false
namespace Go.Proofs.YtmifojdpdbjodaaGreat
open Go

set_option maxRecDepth 1000000
theorem r_0_4 : okF (patW 0) 1 pp4 1 9 4433 5912 25 = true := by kernel_rfl
theorem r_1_12 : okF (patW 1) 2 pp12 1 9 16273 17752 25 = true := by kernel_rfl
theorem r_5_7 : okF (patW 5) 6 pp7 1 9 8873 10352 25 = true := by kernel_rfl
theorem r_6_0a : okZ (patW 6) 6 1 9 = true := by kernel_rfl
theorem r_7_0b : okF (patW 7) 7 [] 1 9 0 0 0 = true := by kernel_rfl
theorem r_7_4 : okF (patW 7) 8 pp4 1 9 4433 5912 25 = true := by kernel_rfl
theorem r_11_1 : okF (patW 11) 11 pp1 1 9 1 1472 17 = true := by kernel_rfl

end Go.Proofs.YtmifojdpdbjodaaGreat

/-
  WorldDatagrams: runs.
-/
import Derived.Test.YtmifojdpdbjodaaGreatWdp
set_option linter.unusedVariables false
set_option linter.unusedSimpArgs false
namespace Go.Proofs.YtmifojdpdbjodaaGreat
open Go

set_option maxRecDepth 1000000
theorem r_1_4 : okF (patW 1) 2 pp4 1 9 4433 5912 25 = true := by kernel_rfl
theorem r_2_12 : okF (patW 2) 3 pp12 1 9 16273 17752 25 = true := by kernel_rfl
theorem r_6_0n : okN (patW 6) 6 1 9 = true := by kernel_rfl
theorem r_6_7 : okF (patW 6) 7 pp7 1 9 8873 10352 25 = true := by kernel_rfl
theorem r_8_0b : okF (patW 8) 8 [] 1 9 0 0 0 = true := by kernel_rfl
theorem r_8_4 : okF (patW 8) 9 pp4 1 9 4433 5912 25 = true := by kernel_rfl
theorem r_12_1 : okF (patW 12) 12 pp1 1 9 1 1472 17 = true := by kernel_rfl

end Go.Proofs.YtmifojdpdbjodaaGreat

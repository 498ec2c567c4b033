/-
  WorldDatagrams: runs.
-/
import Derived.Test.YtmifojdpdbjodaaGreatWdp
set_option linter.unusedVariables false
set_option linter.unusedSimpArgs false
namespace Go.Proofs.YtmifojdpdbjodaaGreat
open Go

set_option maxRecDepth 1000000
theorem r_I_4 : okF patI 1 pp4 0 0 4433 5912 25 = true := by kernel_rfl
theorem r_0_12 : okF (patW 0) 1 pp12 1 9 16273 17752 25 = true := by kernel_rfl
theorem r_4_7 : okF (patW 4) 5 pp7 1 9 8873 10352 25 = true := by kernel_rfl
theorem r_5_0n : okN (patW 5) 5 1 9 = true := by kernel_rfl
theorem r_6_0b : okF (patW 6) 6 [] 1 9 0 0 0 = true := by kernel_rfl
theorem r_6_4 : okF (patW 6) 7 pp4 1 9 4433 5912 25 = true := by kernel_rfl
theorem r_10_1 : okF (patW 10) 10 pp1 1 9 1 1472 17 = true := by kernel_rfl

end Go.Proofs.YtmifojdpdbjodaaGreat

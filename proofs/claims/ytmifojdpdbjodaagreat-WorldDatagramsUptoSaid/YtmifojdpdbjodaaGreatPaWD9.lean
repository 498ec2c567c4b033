/-
  WorldDatagrams: runs.
-/
import Derived.Test.YtmifojdpdbjodaaGreatWdp
set_option linter.unusedVariables false
set_option linter.unusedSimpArgs false
namespace Go.Proofs.YtmifojdpdbjodaaGreat
open Go

set_option maxRecDepth 1000000
theorem r_I_11 : okF patI 1 pp11 0 0 14793 16272 25 = true := by kernel_rfl
theorem r_2_4 : okF (patW 2) 3 pp4 1 9 4433 5912 25 = true := by kernel_rfl
theorem r_6_8 : okF (patW 6) 7 pp8 1 9 10353 11832 25 = true := by kernel_rfl
theorem r_7_0a : okZ (patW 7) 7 1 9 = true := by kernel_rfl
theorem r_9_0b : okF (patW 9) 9 [] 1 9 0 0 0 = true := by kernel_rfl
theorem r_9_4 : okF (patW 9) 10 pp4 1 9 4433 5912 25 = true := by kernel_rfl
theorem r_13_1 : okF (patW 13) 13 pp1 1 9 1 1472 17 = true := by kernel_rfl

end Go.Proofs.YtmifojdpdbjodaaGreat

/-
  WorldDatagrams: runs.
-/
import Derived.Test.YtmifojdpdbjodaaGreatWdp
set_option linter.unusedVariables false
set_option linter.unusedSimpArgs false
namespace Go.Proofs.YtmifojdpdbjodaaGreat
open Go

set_option maxRecDepth 1000000
theorem r_I_14 : okF patI 1 pp14 0 0 19233 20000 25 = true := by kernel_rfl
theorem r_1_0b : okF (patW 1) 1 [] 1 9 0 0 0 = true := by kernel_rfl
theorem r_1_6 : okF (patW 1) 2 pp6 1 9 7393 8872 25 = true := by kernel_rfl
theorem r_3_0a : okZ (patW 3) 3 1 9 = true := by kernel_rfl
theorem r_3_4 : okF (patW 3) 4 pp4 1 9 4433 5912 25 = true := by kernel_rfl
theorem r_5_1 : okF (patW 5) 5 pp1 1 9 1 1472 17 = true := by kernel_rfl
theorem r_7_3 : okF (patW 7) 8 pp3 1 9 2953 4432 25 = true := by kernel_rfl

end Go.Proofs.YtmifojdpdbjodaaGreat

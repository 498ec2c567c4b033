/-
  WorldDatagrams: runs.
-/
import Derived.Test.YtmifojdpdbjodaaGreatWdp
set_option linter.unusedVariables false
set_option linter.unusedSimpArgs false
namespace Go.Proofs.YtmifojdpdbjodaaGreat
open Go

set_option maxRecDepth 1000000
theorem r_0_14 : okF (patW 0) 1 pp14 1 9 19233 20000 25 = true := by kernel_rfl
theorem r_2_0b : okF (patW 2) 2 [] 1 9 0 0 0 = true := by kernel_rfl
theorem r_2_6 : okF (patW 2) 3 pp6 1 9 7393 8872 25 = true := by kernel_rfl
theorem r_3_0n : okN (patW 3) 3 1 9 = true := by kernel_rfl
theorem r_4_4 : okF (patW 4) 5 pp4 1 9 4433 5912 25 = true := by kernel_rfl
theorem r_6_1 : okF (patW 6) 6 pp1 1 9 1 1472 17 = true := by kernel_rfl
theorem r_8_3 : okF (patW 8) 9 pp3 1 9 2953 4432 25 = true := by kernel_rfl

end Go.Proofs.YtmifojdpdbjodaaGreat

/-
  WorldDatagrams: runs.
-/
import Derived.Test.YtmifojdpdbjodaaGreatWdp
set_option linter.unusedVariables false
set_option linter.unusedSimpArgs false
namespace Go.Proofs.YtmifojdpdbjodaaGreat
open Go

set_option maxRecDepth 1000000
theorem r_0_6 : okF (patW 0) 1 pp6 1 9 7393 8872 25 = true := by kernel_rfl
theorem r_1_13 : okF (patW 1) 2 pp13 1 9 17753 19232 25 = true := by kernel_rfl
theorem r_5_0a : okZ (patW 5) 5 1 9 = true := by kernel_rfl
theorem r_5_0b : okF (patW 5) 5 [] 1 9 0 0 0 = true := by kernel_rfl
theorem r_8_5 : okF (patW 8) 9 pp5 1 9 5913 7392 25 = true := by kernel_rfl
theorem r_9_1 : okF (patW 9) 9 pp1 1 9 1 1472 17 = true := by kernel_rfl
theorem r_11_3 : okF (patW 11) 12 pp3 1 9 2953 4432 25 = true := by kernel_rfl

end Go.Proofs.YtmifojdpdbjodaaGreat

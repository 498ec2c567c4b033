/-
  WorldDatagrams: runs.
-/
import Derived.Test.YtmifojdpdbjodaaGreatWdp
set_option linter.unusedVariables false
set_option linter.unusedSimpArgs false
namespace Go.Proofs.YtmifojdpdbjodaaGreat
open Go

set_option maxRecDepth 1000000
theorem r_I_13 : okF patI 1 pp13 0 0 17753 19232 25 = true := by kernel_rfl
theorem r_3_0b : okF (patW 3) 3 [] 1 9 0 0 0 = true := by kernel_rfl
theorem r_4_0a : okZ (patW 4) 4 1 9 = true := by kernel_rfl
theorem r_5_4 : okF (patW 5) 6 pp4 1 9 4433 5912 25 = true := by kernel_rfl
theorem r_7_1 : okF (patW 7) 7 pp1 1 9 1 1472 17 = true := by kernel_rfl
theorem r_7_7 : okF (patW 7) 8 pp7 1 9 8873 10352 25 = true := by kernel_rfl
theorem r_9_3 : okF (patW 9) 10 pp3 1 9 2953 4432 25 = true := by kernel_rfl

end Go.Proofs.YtmifojdpdbjodaaGreat

/-
  WorldDatagrams: runs.
-/
import Derived.Test.YtmifojdpdbjodaaGreatWdp
set_option linter.unusedVariables false
set_option linter.unusedSimpArgs false
namespace Go.Proofs.YtmifojdpdbjodaaGreat
open Go

set_option maxRecDepth 1000000
theorem r_I_6 : okF patI 1 pp6 0 0 7393 8872 25 = true := by kernel_rfl
theorem r_0_13 : okF (patW 0) 1 pp13 1 9 17753 19232 25 = true := by kernel_rfl
theorem r_4_0b : okF (patW 4) 4 [] 1 9 0 0 0 = true := by kernel_rfl
theorem r_4_0n : okN (patW 4) 4 1 9 = true := by kernel_rfl
theorem r_7_5 : okF (patW 7) 8 pp5 1 9 5913 7392 25 = true := by kernel_rfl
theorem r_8_1 : okF (patW 8) 8 pp1 1 9 1 1472 17 = true := by kernel_rfl
theorem r_10_3 : okF (patW 10) 11 pp3 1 9 2953 4432 25 = true := by kernel_rfl

end Go.Proofs.YtmifojdpdbjodaaGreat

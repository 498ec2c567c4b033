/-
  WorldDatagrams: runs.
-/
import Derived.Test.YtmifojdpdbjodaaGreatWdp
set_option linter.unusedVariables false
set_option linter.unusedSimpArgs false
namespace Go.Proofs.YtmifojdpdbjodaaGreat
open Go

set_option maxRecDepth 1000000
theorem r_0_0a : okZ (patW 0) 0 1 9 = true := by kernel_rfl
theorem r_0_1 : okF (patW 0) 0 pp1 1 9 1 1472 17 = true := by kernel_rfl
theorem r_1_10 : okF (patW 1) 2 pp10 1 9 13313 14792 25 = true := by kernel_rfl
theorem r_2_8 : okF (patW 2) 3 pp8 1 9 10353 11832 25 = true := by kernel_rfl
theorem r_3_3 : okF (patW 3) 4 pp3 1 9 2953 4432 25 = true := by kernel_rfl
theorem r_3_5 : okF (patW 3) 4 pp5 1 9 5913 7392 25 = true := by kernel_rfl
theorem r_12_0a : okZ (patW 12) 12 1 9 = true := by kernel_rfl

end Go.Proofs.YtmifojdpdbjodaaGreat

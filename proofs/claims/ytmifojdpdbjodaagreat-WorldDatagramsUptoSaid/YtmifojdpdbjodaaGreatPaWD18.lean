/-
  WorldDatagrams: runs.
-/
import Derived.Test.YtmifojdpdbjodaaGreatWdp
set_option linter.unusedVariables false
set_option linter.unusedSimpArgs false
namespace Go.Proofs.YtmifojdpdbjodaaGreat
open Go

set_option maxRecDepth 1000000
theorem r_1_0a : okZ (patW 1) 1 1 9 = true := by kernel_rfl
theorem r_2_1 : okF (patW 2) 2 pp1 1 9 1 1472 17 = true := by kernel_rfl
theorem r_3_10 : okF (patW 3) 4 pp10 1 9 13313 14792 25 = true := by kernel_rfl
theorem r_4_8 : okF (patW 4) 5 pp8 1 9 10353 11832 25 = true := by kernel_rfl
theorem r_5_3 : okF (patW 5) 6 pp3 1 9 2953 4432 25 = true := by kernel_rfl
theorem r_5_5 : okF (patW 5) 6 pp5 1 9 5913 7392 25 = true := by kernel_rfl
theorem r_13_0a : okZ (patW 13) 13 1 9 = true := by kernel_rfl

end Go.Proofs.YtmifojdpdbjodaaGreat

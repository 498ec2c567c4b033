/-
  WorldDatagrams: runs.
-/
import Derived.Test.YtmifojdpdbjodaaGreatWdp
set_option linter.unusedVariables false
set_option linter.unusedSimpArgs false
namespace Go.Proofs.YtmifojdpdbjodaaGreat
open Go

set_option maxRecDepth 1000000
theorem r_I_0n : okN patI 0 0 0 = true := by kernel_rfl
theorem r_I_1 : okF patI 0 pp1 0 0 1 1472 17 = true := by kernel_rfl
theorem r_0_10 : okF (patW 0) 1 pp10 1 9 13313 14792 25 = true := by kernel_rfl
theorem r_1_8 : okF (patW 1) 2 pp8 1 9 10353 11832 25 = true := by kernel_rfl
theorem r_2_3 : okF (patW 2) 3 pp3 1 9 2953 4432 25 = true := by kernel_rfl
theorem r_2_5 : okF (patW 2) 3 pp5 1 9 5913 7392 25 = true := by kernel_rfl
theorem r_11_0n : okN (patW 11) 11 1 9 = true := by kernel_rfl

end Go.Proofs.YtmifojdpdbjodaaGreat

/-
  WorldDatagrams: runs.
-/
import Derived.Test.YtmifojdpdbjodaaGreatWdp
set_option linter.unusedVariables false
set_option linter.unusedSimpArgs false
namespace Go.Proofs.YtmifojdpdbjodaaGreat
open Go

set_option maxRecDepth 1000000
theorem r_I_10 : okF patI 1 pp10 0 0 13313 14792 25 = true := by kernel_rfl
theorem r_0_8 : okF (patW 0) 1 pp8 1 9 10353 11832 25 = true := by kernel_rfl
theorem r_1_3 : okF (patW 1) 2 pp3 1 9 2953 4432 25 = true := by kernel_rfl
theorem r_1_5 : okF (patW 1) 2 pp5 1 9 5913 7392 25 = true := by kernel_rfl
theorem e_2 : okX (patW 2) 1 10 = true := by kernel_rfl
theorem e_6 : okX (patW 6) 1 10 = true := by kernel_rfl
theorem e_10 : okX (patW 10) 1 10 = true := by kernel_rfl
theorem r_11_0a : okZ (patW 11) 11 1 9 = true := by kernel_rfl
theorem r_12_2 : okF (patW 12) 13 pp2 1 9 1473 2952 25 = true := by kernel_rfl

end Go.Proofs.YtmifojdpdbjodaaGreat

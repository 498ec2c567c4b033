/-
  WorldDatagrams: runs.
-/
import Derived.Test.YtmifojdpdbjodaaGreatWdp
set_option linter.unusedVariables false
set_option linter.unusedSimpArgs false
namespace Go.Proofs.YtmifojdpdbjodaaGreat
open Go

set_option maxRecDepth 1000000
theorem r_I_0a : okZ patI 0 0 0 = true := by kernel_rfl
theorem r_I_5 : okF patI 1 pp5 0 0 5913 7392 25 = true := by kernel_rfl
theorem r_0_0b : okF (patW 0) 0 [] 1 9 0 0 0 = true := by kernel_rfl
theorem r_0_9 : okF (patW 0) 1 pp9 1 9 11833 13312 25 = true := by kernel_rfl
theorem r_2_0n : okN (patW 2) 2 1 9 = true := by kernel_rfl
theorem r_4_9 : okF (patW 4) 5 pp9 1 9 11833 13312 25 = true := by kernel_rfl
theorem r_10_4 : okF (patW 10) 11 pp4 1 9 4433 5912 25 = true := by kernel_rfl
theorem e_12 : okX (patW 12) 1 10 = true := by kernel_rfl

end Go.Proofs.YtmifojdpdbjodaaGreat

/-
  WorldDatagrams: runs.
-/
import Derived.Test.YtmifojdpdbjodaaGreatWdp
set_option linter.unusedVariables false
set_option linter.unusedSimpArgs false
namespace Go.Proofs.YtmifojdpdbjodaaGreat
open Go

set_option maxRecDepth 1000000
theorem r_I_12 : okF patI 1 pp12 0 0 16273 17752 25 = true := by kernel_rfl
theorem r_I_2 : okF patI 1 pp2 0 0 1473 2952 25 = true := by kernel_rfl
theorem r_3_7 : okF (patW 3) 4 pp7 1 9 8873 10352 25 = true := by kernel_rfl
theorem r_7_2 : okF (patW 7) 8 pp2 1 9 1473 2952 25 = true := by kernel_rfl
theorem r_8_0n : okN (patW 8) 8 1 9 = true := by kernel_rfl
theorem r_9_5 : okF (patW 9) 10 pp5 1 9 5913 7392 25 = true := by kernel_rfl
theorem r_12_0b : okF (patW 12) 12 [] 1 9 0 0 0 = true := by kernel_rfl

end Go.Proofs.YtmifojdpdbjodaaGreat

/-
  WorldDatagrams: runs.
-/
import Derived.Test.YtmifojdpdbjodaaGreatWdp
set_option linter.unusedVariables false
set_option linter.unusedSimpArgs false
namespace Go.Proofs.YtmifojdpdbjodaaGreat
open Go

set_option maxRecDepth 1000000
theorem r_I_3 : okF patI 1 pp3 0 0 2953 4432 25 = true := by kernel_rfl
theorem r_0_5 : okF (patW 0) 1 pp5 1 9 5913 7392 25 = true := by kernel_rfl
theorem r_1_9 : okF (patW 1) 2 pp9 1 9 11833 13312 25 = true := by kernel_rfl
theorem r_5_2 : okF (patW 5) 6 pp2 1 9 1473 2952 25 = true := by kernel_rfl
theorem r_5_9 : okF (patW 5) 6 pp9 1 9 11833 13312 25 = true := by kernel_rfl
theorem r_7_0n : okN (patW 7) 7 1 9 = true := by kernel_rfl
theorem r_10_0b : okF (patW 10) 10 [] 1 9 0 0 0 = true := by kernel_rfl

end Go.Proofs.YtmifojdpdbjodaaGreat

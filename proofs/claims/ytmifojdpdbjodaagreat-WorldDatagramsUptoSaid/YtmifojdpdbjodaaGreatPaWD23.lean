/-
  WorldDatagrams: runs.
-/
import Derived.Test.YtmifojdpdbjodaaGreatWdp
set_option linter.unusedVariables false
set_option linter.unusedSimpArgs false
namespace Go.Proofs.YtmifojdpdbjodaaGreat
open Go

set_option maxRecDepth 1000000
theorem r_I_8 : okF patI 1 pp8 0 0 10353 11832 25 = true := by kernel_rfl
theorem r_0_3 : okF (patW 0) 1 pp3 1 9 2953 4432 25 = true := by kernel_rfl
theorem r_2_9 : okF (patW 2) 3 pp9 1 9 11833 13312 25 = true := by kernel_rfl
theorem r_3_6 : okF (patW 3) 4 pp6 1 9 7393 8872 25 = true := by kernel_rfl
theorem r_6_2 : okF (patW 6) 7 pp2 1 9 1473 2952 25 = true := by kernel_rfl
theorem r_8_0a : okZ (patW 8) 8 1 9 = true := by kernel_rfl
theorem r_11_0b : okF (patW 11) 11 [] 1 9 0 0 0 = true := by kernel_rfl

end Go.Proofs.YtmifojdpdbjodaaGreat

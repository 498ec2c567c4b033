/-
  WorldDatagrams: runs.
-/
import Derived.Test.YtmifojdpdbjodaaGreatWdp
set_option linter.unusedVariables false
set_option linter.unusedSimpArgs false
namespace Go.Proofs.YtmifojdpdbjodaaGreat
open Go

set_option maxRecDepth 1000000
theorem r_I_7 : okF patI 1 pp7 0 0 8873 10352 25 = true := by kernel_rfl
theorem r_0_11 : okF (patW 0) 1 pp11 1 9 14793 16272 25 = true := by kernel_rfl
theorem r_0_2 : okF (patW 0) 1 pp2 1 9 1473 2952 25 = true := by kernel_rfl
theorem r_4_6 : okF (patW 4) 5 pp6 1 9 7393 8872 25 = true := by kernel_rfl
theorem r_8_2 : okF (patW 8) 9 pp2 1 9 1473 2952 25 = true := by kernel_rfl
theorem r_9_0a : okZ (patW 9) 9 1 9 = true := by kernel_rfl
theorem r_13_0b : okF (patW 13) 13 [] 1 9 0 0 0 = true := by kernel_rfl

end Go.Proofs.YtmifojdpdbjodaaGreat

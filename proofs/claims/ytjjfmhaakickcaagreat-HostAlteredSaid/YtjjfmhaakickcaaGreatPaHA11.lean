/-
  HostAltered: runs.
-/
import Derived.Test.YtjjfmhaakickcaaGreatHbs
set_option linter.unusedVariables false
set_option linter.unusedSimpArgs false
namespace Go.Proofs.YtjjfmhaakickcaaGreat
open Go

set_option maxRecDepth 1000000
theorem r_ue_n25 : endsOk 0 0 0 (runA sw0 (lN 28) [] (rgL 25 25 0 0 0 255) (.osl 300 0 303) false) [] = true := by kernel_rfl
theorem r_ue_n26 : endsOk 0 0 0 (runA sw0 (lN 28) [] (rgL 26 26 0 0 0 255) (.osl 300 0 303) false) [] = true := by kernel_rfl

end Go.Proofs.YtjjfmhaakickcaaGreat

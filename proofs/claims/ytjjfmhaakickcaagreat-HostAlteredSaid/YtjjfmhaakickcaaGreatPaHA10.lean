/-
  HostAltered: runs.
-/
import Derived.Test.YtjjfmhaakickcaaGreatHbs
set_option linter.unusedVariables false
set_option linter.unusedSimpArgs false
namespace Go.Proofs.YtjjfmhaakickcaaGreat
open Go

set_option maxRecDepth 1000000
theorem r_ul_n23 : endsOk 0 0 0 (runA sw0 (lnF 28) [] (rgL 23 23 18 1000 0 255) (.fsl 32 zeroS zeroS (.var 32)) false) [] = true := by kernel_rfl
theorem r_ul_n24 : endsOk 0 0 0 (runA sw0 (lnF 28) [] (rgL 24 24 18 1000 0 255) (.fsl 32 zeroS zeroS (.var 32)) false) [] = true := by kernel_rfl
theorem r_ul_n25 : endsOk 0 0 0 (runA sw0 (lnF 28) [] (rgL 25 25 18 1000 0 255) (.fsl 32 zeroS zeroS (.var 32)) false) [] = true := by kernel_rfl
theorem r_ul_n26 : endsOk 0 0 0 (runA sw0 (lnF 28) [] (rgL 26 26 18 1000 0 255) (.fsl 32 zeroS zeroS (.var 32)) false) [] = true := by kernel_rfl
theorem r_up_n23 : endsOk 0 0 0 (runA sw0 (lnF 28) [] (rgL 23 23 1 17 0 255) (.fsl 32 zeroS zeroS (.var 32)) false) [] = true := by kernel_rfl
theorem r_up_n24 : endsOk 0 0 0 (runA sw0 (lnF 28) [] (rgL 24 24 1 17 0 255) (.fsl 32 zeroS zeroS (.var 32)) false) [] = true := by kernel_rfl
theorem r_up_n25 : endsOk 0 0 0 (runA sw0 (lnF 28) [] (rgL 25 25 1 17 0 255) (.fsl 32 zeroS zeroS (.var 32)) false) [] = true := by kernel_rfl
theorem r_up_n26 : endsOk 0 0 0 (runA sw0 (lnF 28) [] (rgL 26 26 1 17 0 255) (.fsl 32 zeroS zeroS (.var 32)) false) [] = true := by kernel_rfl
theorem r_ue_n23 : endsOk 0 0 0 (runA sw0 (lN 28) [] (rgL 23 23 0 0 0 255) (.osl 300 0 303) false) [] = true := by kernel_rfl
theorem r_ue_n24 : endsOk 0 0 0 (runA sw0 (lN 28) [] (rgL 24 24 0 0 0 255) (.osl 300 0 303) false) [] = true := by kernel_rfl

end Go.Proofs.YtjjfmhaakickcaaGreat

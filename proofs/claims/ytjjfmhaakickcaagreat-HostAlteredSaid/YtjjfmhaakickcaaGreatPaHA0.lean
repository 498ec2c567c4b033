/-
  HostAltered: runs.
-/
import Derived.Test.YtjjfmhaakickcaaGreatHbs
set_option linter.unusedVariables false
set_option linter.unusedSimpArgs false
namespace Go.Proofs.YtjjfmhaakickcaaGreat
open Go

set_option maxRecDepth 1000000
theorem r_ul_ip : endsOk 0 0 0 (runA ⟨posA, (lnF 42), [.bs ethF] ++ .bs ipU :: [.bs udU, .row 32 (lN 0) (.var 32)], [.bs ethF] ++ .bs ipU_ipU :: [.bs udU, .row 32 (lN 0) (.var 32)], [notR eIp]⟩ (lnF 28) [] (rgL 0 18 18 1000 0 255) (.fsl 32 zeroS zeroS (.var 32)) false) ([notR eIp] ++ []) = true := by kernel_rfl
theorem r_ul_po : endsOk 0 0 0 (runA ⟨posA, (lnF 42), [.bs ethF, .bs ipU] ++ .bs udU :: [.row 32 (lN 0) (.var 32)], [.bs ethF, .bs ipU] ++ .bs udU_poU :: [.row 32 (lN 0) (.var 32)], [notR ePorts]⟩ (lnF 28) [] (rgL 19 22 18 1000 0 255) (.fsl 32 zeroS zeroS (.var 32)) false) ([notR ePorts] ++ []) = true := by kernel_rfl
theorem r_ul_row : endsOk 0 0 0 (runA ⟨posA, (lnF 42), [.bs ethF, .bs ipU, .bs udU] ++ .row 32 (lN 0) (.var 32) :: [], [.bs ethF, .bs ipU, .bs udU] ++ .row 33 (lN 0) (.var 32) :: [], [notR eUrow]⟩ (lnF 28) [(.cmp .lss posA (lnF 42), true)] (rgL 27 1026 18 1000 0 255) (.fsl 32 zeroS zeroS (.var 32)) false) ([notR eUrow] ++ [(.cmp .lss posA (lnF 42), true)]) = true := by kernel_rfl
theorem r_up_ip : endsOk 0 0 0 (runA ⟨posA, (lN 60), [.bs ethF] ++ .bs ipU :: [.bs udU, .row 32 (lN 0) (.var 32), .fil (.bin .sub .i64 (lN 46) (lnF 28)) (lN 0)], [.bs ethF] ++ .bs ipU_ipU :: [.bs udU, .row 32 (lN 0) (.var 32), .fil (.bin .sub .i64 (lN 46) (lnF 28)) (lN 0)], [notR eIp]⟩ (lnF 28) [] (rgL 0 18 1 17 0 255) (.fsl 32 zeroS zeroS (.var 32)) false) ([notR eIp] ++ []) = true := by kernel_rfl
theorem r_up_po : endsOk 0 0 0 (runA ⟨posA, (lN 60), [.bs ethF, .bs ipU] ++ .bs udU :: [.row 32 (lN 0) (.var 32), .fil (.bin .sub .i64 (lN 46) (lnF 28)) (lN 0)], [.bs ethF, .bs ipU] ++ .bs udU_poU :: [.row 32 (lN 0) (.var 32), .fil (.bin .sub .i64 (lN 46) (lnF 28)) (lN 0)], [notR ePorts]⟩ (lnF 28) [] (rgL 19 22 1 17 0 255) (.fsl 32 zeroS zeroS (.var 32)) false) ([notR ePorts] ++ []) = true := by kernel_rfl
theorem r_up_row : endsOk 0 0 0 (runA ⟨posA, (lN 60), [.bs ethF, .bs ipU, .bs udU] ++ .row 32 (lN 0) (.var 32) :: [.fil (.bin .sub .i64 (lN 46) (lnF 28)) (lN 0)], [.bs ethF, .bs ipU, .bs udU] ++ .row 33 (lN 0) (.var 32) :: [.fil (.bin .sub .i64 (lN 46) (lnF 28)) (lN 0)], [notR eUrow]⟩ (lnF 28) [] (rgL 27 43 1 17 0 255) (.fsl 32 zeroS zeroS (.var 32)) false) ([notR eUrow] ++ []) = true := by kernel_rfl
theorem r_ue_ip : endsOk 0 0 0 (runA ⟨posA, (lN 60), [] ++ .bs aU :: [], [] ++ .bs aU_ipUe :: [], [notR eIp]⟩ (lN 28) [] (rgL 0 18 0 0 0 255) (.osl 300 0 303) false) ([notR eIp] ++ []) = true := by kernel_rfl
theorem r_ue_po : endsOk 0 0 0 (runA ⟨posA, (lN 60), [] ++ .bs aU :: [], [] ++ .bs aU_poUe :: [], [notR ePorts0]⟩ (lN 28) [] (rgL 19 22 0 0 0 255) (.osl 300 0 303) false) ([notR ePorts0] ++ []) = true := by kernel_rfl

end Go.Proofs.YtjjfmhaakickcaaGreat

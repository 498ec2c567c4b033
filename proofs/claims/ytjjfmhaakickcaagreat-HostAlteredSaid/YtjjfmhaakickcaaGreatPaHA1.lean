/-
  HostAltered: runs.
-/
import Derived.Test.YtjjfmhaakickcaaGreatHbs
set_option linter.unusedVariables false
set_option linter.unusedSimpArgs false
namespace Go.Proofs.YtjjfmhaakickcaaGreat
open Go

set_option maxRecDepth 1000000
theorem r_tl_ip : endsOk 0 0 0 (runA ⟨posA, (lnF 54), [.bs ethF] ++ .bs ipT :: [.bs tcT, .row 32 (lN 0) (.var 32)], [.bs ethF] ++ .bs ipT_ipT :: [.bs tcT, .row 32 (lN 0) (.var 32)], [notR eIp]⟩ (lnF 40) [] (rgL 0 18 6 1000 0 255) (.fsl 32 zeroS zeroS (.var 32)) true) ([notR eIp] ++ []) = true := by kernel_rfl
theorem r_tl_hd : endsOk 0 0 0 (runA ⟨posA, (lnF 54), [.bs ethF, .bs ipT] ++ .bs tcT :: [.row 32 (lN 0) (.var 32)], [.bs ethF, .bs ipT] ++ .bs tcT_hdT :: [.row 32 (lN 0) (.var 32)], [notR eTcph]⟩ (lnF 40) [] (rgL 19 38 6 1000 0 255) (.fsl 32 zeroS zeroS (.var 32)) true) ([notR eTcph] ++ []) = true := by kernel_rfl
theorem r_tl_row : endsOk 0 0 0 (runA ⟨posA, (lnF 54), [.bs ethF, .bs ipT, .bs tcT] ++ .row 32 (lN 0) (.var 32) :: [], [.bs ethF, .bs ipT, .bs tcT] ++ .row 33 (lN 0) (.var 32) :: [], [notR eTrow]⟩ (lnF 40) [(.cmp .lss posA (lnF 54), true)] (rgL 39 1038 6 1000 0 255) (.fsl 32 zeroS zeroS (.var 32)) true) ([notR eTrow] ++ [(.cmp .lss posA (lnF 54), true)]) = true := by kernel_rfl
theorem r_tp_ip : endsOk 0 0 0 (runA ⟨posA, (lN 60), [.bs ethF] ++ .bs ipT :: [.bs tcT, .row 32 (lN 0) (.var 32), .fil (.bin .sub .i64 (lN 46) (lnF 40)) (lN 0)], [.bs ethF] ++ .bs ipT_ipT :: [.bs tcT, .row 32 (lN 0) (.var 32), .fil (.bin .sub .i64 (lN 46) (lnF 40)) (lN 0)], [notR eIp]⟩ (lnF 40) [] (rgL 0 18 1 5 0 255) (.fsl 32 zeroS zeroS (.var 32)) true) ([notR eIp] ++ []) = true := by kernel_rfl
theorem r_tp_hd : endsOk 0 0 0 (runA ⟨posA, (lN 60), [.bs ethF, .bs ipT] ++ .bs tcT :: [.row 32 (lN 0) (.var 32), .fil (.bin .sub .i64 (lN 46) (lnF 40)) (lN 0)], [.bs ethF, .bs ipT] ++ .bs tcT_hdT :: [.row 32 (lN 0) (.var 32), .fil (.bin .sub .i64 (lN 46) (lnF 40)) (lN 0)], [notR eTcph]⟩ (lnF 40) [] (rgL 19 38 1 5 0 255) (.fsl 32 zeroS zeroS (.var 32)) true) ([notR eTcph] ++ []) = true := by kernel_rfl
theorem r_tp_row : endsOk 0 0 0 (runA ⟨posA, (lN 60), [.bs ethF, .bs ipT, .bs tcT] ++ .row 32 (lN 0) (.var 32) :: [.fil (.bin .sub .i64 (lN 46) (lnF 40)) (lN 0)], [.bs ethF, .bs ipT, .bs tcT] ++ .row 33 (lN 0) (.var 32) :: [.fil (.bin .sub .i64 (lN 46) (lnF 40)) (lN 0)], [notR eTrow]⟩ (lnF 40) [] (rgL 39 43 1 5 0 255) (.fsl 32 zeroS zeroS (.var 32)) true) ([notR eTrow] ++ []) = true := by kernel_rfl
theorem r_te_ip : endsOk 0 0 0 (runA ⟨posA, (lN 60), [] ++ .bs aT :: [], [] ++ .bs aT_ipTe :: [], [notR eIp]⟩ (lN 40) [] (rgL 0 18 0 0 0 255) (.osl 300 0 303) true) ([notR eIp] ++ []) = true := by kernel_rfl
theorem r_te_hd : endsOk 0 0 0 (runA ⟨posA, (lN 60), [] ++ .bs aT :: [], [] ++ .bs aT_hdTe :: [], [notR eTcph0]⟩ (lN 40) [] (rgL 19 38 0 0 0 255) (.osl 300 0 303) true) ([notR eTcph0] ++ []) = true := by kernel_rfl
theorem r_te_lo0 : endsOk 0 0 0 (runA ⟨posA, (lN 60), [] ++ .bs aT :: [], [] ++ .bs aT_loTe :: [], []⟩ (lN 40) [] (rgL 31 31 0 0 0 79) (.osl 300 0 303) true) ([] ++ []) = true := by kernel_rfl

end Go.Proofs.YtjjfmhaakickcaaGreat

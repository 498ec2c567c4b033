/-
  HostAltered: runs.
-/
import Derived.Test.YtjjfmhaakickcaaGreatHbs
set_option linter.unusedVariables false
set_option linter.unusedSimpArgs false
namespace Go.Proofs.YtjjfmhaakickcaaGreat
open Go

set_option maxRecDepth 1000000
theorem r_tl_lo14b : endsOk 0 0 0 (runA ⟨posA, (lnF 54), [.bs ethF, .bs ipT] ++ .bs tcT :: [.row 32 (lN 0) (.var 32)], [.bs ethF, .bs ipT] ++ .bs tcT_loT :: [.row 32 (lN 0) (.var 32)], [notR eTcpho]⟩ (lnF 40) [] (rgL 31 31 36 36 224 239) (.fsl 32 zeroS zeroS (.var 32)) true) ([notR eTcpho] ++ []) = true := by kernel_rfl
theorem r_tl_lo14c : endsOk 0 0 0 (runA ⟨posA, (lnF 54), [.bs ethF, .bs ipT] ++ .bs tcT :: [.row 32 (lN 0) (.var 32)], [.bs ethF, .bs ipT] ++ .bs tcT_loT :: [.row 32 (lN 0) (.var 32)], [notR eTcpho]⟩ (lnF 40) [] (rgL 31 31 37 1000 224 239) (.fsl 32 zeroS zeroS (.var 32)) true) ([notR eTcpho] ++ []) = true := by kernel_rfl
theorem r_tl_lo15a : endsOk 0 0 0 (runA ⟨posA, (lnF 54), [.bs ethF, .bs ipT] ++ .bs tcT :: [.row 32 (lN 0) (.var 32)], [.bs ethF, .bs ipT] ++ .bs tcT_loT :: [.row 32 (lN 0) (.var 32)], [notR eTcpho]⟩ (lnF 40) [] (rgL 31 31 6 39 240 255) (.fsl 32 zeroS zeroS (.var 32)) true) ([notR eTcpho] ++ []) = true := by kernel_rfl
theorem r_tl_lo15b : endsOk 0 0 0 (runA ⟨posA, (lnF 54), [.bs ethF, .bs ipT] ++ .bs tcT :: [.row 32 (lN 0) (.var 32)], [.bs ethF, .bs ipT] ++ .bs tcT_loT :: [.row 32 (lN 0) (.var 32)], [notR eTcpho]⟩ (lnF 40) [] (rgL 31 31 40 40 240 255) (.fsl 32 zeroS zeroS (.var 32)) true) ([notR eTcpho] ++ []) = true := by kernel_rfl
theorem r_tl_lo15c : endsOk 0 0 0 (runA ⟨posA, (lnF 54), [.bs ethF, .bs ipT] ++ .bs tcT :: [.row 32 (lN 0) (.var 32)], [.bs ethF, .bs ipT] ++ .bs tcT_loT :: [.row 32 (lN 0) (.var 32)], [notR eTcpho]⟩ (lnF 40) [] (rgL 31 31 41 1000 240 255) (.fsl 32 zeroS zeroS (.var 32)) true) ([notR eTcpho] ++ []) = true := by kernel_rfl
theorem r_tl_va81 : endsOk 0 0 0 (runA ⟨posA, (lnF 54), [.bs ethF, .bs ipT] ++ .bs tcT :: [.row 32 (lN 0) (.var 32)], [.bs ethF, .bs ipT] ++ .bs (tcT.set 12 (lN 81)) :: [.row 32 (lN 0) (.var 32)], [notR (eTcpv 20807)]⟩ (lnF 40) [] (rgL 31 31 6 1000 0 255) (.fsl 32 zeroS zeroS (.var 32)) true) ([notR (eTcpv 20807)] ++ []) = true := by kernel_rfl
theorem r_tl_va82 : endsOk 0 0 0 (runA ⟨posA, (lnF 54), [.bs ethF, .bs ipT] ++ .bs tcT :: [.row 32 (lN 0) (.var 32)], [.bs ethF, .bs ipT] ++ .bs (tcT.set 12 (lN 82)) :: [.row 32 (lN 0) (.var 32)], [notR (eTcpv 21063)]⟩ (lnF 40) [] (rgL 31 31 6 1000 0 255) (.fsl 32 zeroS zeroS (.var 32)) true) ([notR (eTcpv 21063)] ++ []) = true := by kernel_rfl
theorem r_tl_va83 : endsOk 0 0 0 (runA ⟨posA, (lnF 54), [.bs ethF, .bs ipT] ++ .bs tcT :: [.row 32 (lN 0) (.var 32)], [.bs ethF, .bs ipT] ++ .bs (tcT.set 12 (lN 83)) :: [.row 32 (lN 0) (.var 32)], [notR (eTcpv 21319)]⟩ (lnF 40) [] (rgL 31 31 6 1000 0 255) (.fsl 32 zeroS zeroS (.var 32)) true) ([notR (eTcpv 21319)] ++ []) = true := by kernel_rfl
theorem r_tl_va84 : endsOk 0 0 0 (runA ⟨posA, (lnF 54), [.bs ethF, .bs ipT] ++ .bs tcT :: [.row 32 (lN 0) (.var 32)], [.bs ethF, .bs ipT] ++ .bs (tcT.set 12 (lN 84)) :: [.row 32 (lN 0) (.var 32)], [notR (eTcpv 21575)]⟩ (lnF 40) [] (rgL 31 31 6 1000 0 255) (.fsl 32 zeroS zeroS (.var 32)) true) ([notR (eTcpv 21575)] ++ []) = true := by kernel_rfl
theorem r_tl_va85 : endsOk 0 0 0 (runA ⟨posA, (lnF 54), [.bs ethF, .bs ipT] ++ .bs tcT :: [.row 32 (lN 0) (.var 32)], [.bs ethF, .bs ipT] ++ .bs (tcT.set 12 (lN 85)) :: [.row 32 (lN 0) (.var 32)], [notR (eTcpv 21831)]⟩ (lnF 40) [] (rgL 31 31 6 1000 0 255) (.fsl 32 zeroS zeroS (.var 32)) true) ([notR (eTcpv 21831)] ++ []) = true := by kernel_rfl

end Go.Proofs.YtjjfmhaakickcaaGreat

/-
  HostAltered: runs.
-/
import Derived.Test.YtjjfmhaakickcaaGreatHbs
set_option linter.unusedVariables false
set_option linter.unusedSimpArgs false
namespace Go.Proofs.YtjjfmhaakickcaaGreat
open Go

set_option maxRecDepth 1000000
theorem r_tl_lo7c : endsOk 0 0 0 (runA ⟨posA, (lnF 54), [.bs ethF, .bs ipT] ++ .bs tcT :: [.row 32 (lN 0) (.var 32)], [.bs ethF, .bs ipT] ++ .bs tcT_loT :: [.row 32 (lN 0) (.var 32)], [notR eTcpho]⟩ (lnF 40) [] (rgL 31 31 9 1000 112 127) (.fsl 32 zeroS zeroS (.var 32)) true) ([notR eTcpho] ++ []) = true := by kernel_rfl
theorem r_tl_lo8a : endsOk 0 0 0 (runA ⟨posA, (lnF 54), [.bs ethF, .bs ipT] ++ .bs tcT :: [.row 32 (lN 0) (.var 32)], [.bs ethF, .bs ipT] ++ .bs tcT_loT :: [.row 32 (lN 0) (.var 32)], [notR eTcpho]⟩ (lnF 40) [] (rgL 31 31 6 11 128 143) (.fsl 32 zeroS zeroS (.var 32)) true) ([notR eTcpho] ++ []) = true := by kernel_rfl
theorem r_tl_lo8b : endsOk 0 0 0 (runA ⟨posA, (lnF 54), [.bs ethF, .bs ipT] ++ .bs tcT :: [.row 32 (lN 0) (.var 32)], [.bs ethF, .bs ipT] ++ .bs tcT_loT :: [.row 32 (lN 0) (.var 32)], [notR eTcpho]⟩ (lnF 40) [] (rgL 31 31 12 12 128 143) (.fsl 32 zeroS zeroS (.var 32)) true) ([notR eTcpho] ++ []) = true := by kernel_rfl
theorem r_tl_lo8c : endsOk 0 0 0 (runA ⟨posA, (lnF 54), [.bs ethF, .bs ipT] ++ .bs tcT :: [.row 32 (lN 0) (.var 32)], [.bs ethF, .bs ipT] ++ .bs tcT_loT :: [.row 32 (lN 0) (.var 32)], [notR eTcpho]⟩ (lnF 40) [] (rgL 31 31 13 1000 128 143) (.fsl 32 zeroS zeroS (.var 32)) true) ([notR eTcpho] ++ []) = true := by kernel_rfl
theorem r_tl_lo9a : endsOk 0 0 0 (runA ⟨posA, (lnF 54), [.bs ethF, .bs ipT] ++ .bs tcT :: [.row 32 (lN 0) (.var 32)], [.bs ethF, .bs ipT] ++ .bs tcT_loT :: [.row 32 (lN 0) (.var 32)], [notR eTcpho]⟩ (lnF 40) [] (rgL 31 31 6 15 144 159) (.fsl 32 zeroS zeroS (.var 32)) true) ([notR eTcpho] ++ []) = true := by kernel_rfl
theorem r_tl_lo9b : endsOk 0 0 0 (runA ⟨posA, (lnF 54), [.bs ethF, .bs ipT] ++ .bs tcT :: [.row 32 (lN 0) (.var 32)], [.bs ethF, .bs ipT] ++ .bs tcT_loT :: [.row 32 (lN 0) (.var 32)], [notR eTcpho]⟩ (lnF 40) [] (rgL 31 31 16 16 144 159) (.fsl 32 zeroS zeroS (.var 32)) true) ([notR eTcpho] ++ []) = true := by kernel_rfl
theorem r_tl_lo9c : endsOk 0 0 0 (runA ⟨posA, (lnF 54), [.bs ethF, .bs ipT] ++ .bs tcT :: [.row 32 (lN 0) (.var 32)], [.bs ethF, .bs ipT] ++ .bs tcT_loT :: [.row 32 (lN 0) (.var 32)], [notR eTcpho]⟩ (lnF 40) [] (rgL 31 31 17 1000 144 159) (.fsl 32 zeroS zeroS (.var 32)) true) ([notR eTcpho] ++ []) = true := by kernel_rfl
theorem r_tl_lo10a : endsOk 0 0 0 (runA ⟨posA, (lnF 54), [.bs ethF, .bs ipT] ++ .bs tcT :: [.row 32 (lN 0) (.var 32)], [.bs ethF, .bs ipT] ++ .bs tcT_loT :: [.row 32 (lN 0) (.var 32)], [notR eTcpho]⟩ (lnF 40) [] (rgL 31 31 6 19 160 175) (.fsl 32 zeroS zeroS (.var 32)) true) ([notR eTcpho] ++ []) = true := by kernel_rfl
theorem r_tl_lo10b : endsOk 0 0 0 (runA ⟨posA, (lnF 54), [.bs ethF, .bs ipT] ++ .bs tcT :: [.row 32 (lN 0) (.var 32)], [.bs ethF, .bs ipT] ++ .bs tcT_loT :: [.row 32 (lN 0) (.var 32)], [notR eTcpho]⟩ (lnF 40) [] (rgL 31 31 20 20 160 175) (.fsl 32 zeroS zeroS (.var 32)) true) ([notR eTcpho] ++ []) = true := by kernel_rfl
theorem r_tl_lo10c : endsOk 0 0 0 (runA ⟨posA, (lnF 54), [.bs ethF, .bs ipT] ++ .bs tcT :: [.row 32 (lN 0) (.var 32)], [.bs ethF, .bs ipT] ++ .bs tcT_loT :: [.row 32 (lN 0) (.var 32)], [notR eTcpho]⟩ (lnF 40) [] (rgL 31 31 21 1000 160 175) (.fsl 32 zeroS zeroS (.var 32)) true) ([notR eTcpho] ++ []) = true := by kernel_rfl

end Go.Proofs.YtjjfmhaakickcaaGreat

/-
  HostAltered: runs.
-/
import Derived.Test.YtjjfmhaakickcaaGreatHbs
set_option linter.unusedVariables false
set_option linter.unusedSimpArgs false
namespace Go.Proofs.YtjjfmhaakickcaaGreat
open Go

set_option maxRecDepth 1000000
theorem r_tl_lo11a : endsOk 0 0 0 (runA ⟨posA, (lnF 54), [.bs ethF, .bs ipT] ++ .bs tcT :: [.row 32 (lN 0) (.var 32)], [.bs ethF, .bs ipT] ++ .bs tcT_loT :: [.row 32 (lN 0) (.var 32)], [notR eTcpho]⟩ (lnF 40) [] (rgL 31 31 6 23 176 191) (.fsl 32 zeroS zeroS (.var 32)) true) ([notR eTcpho] ++ []) = true := by kernel_rfl
theorem r_tl_lo11b : endsOk 0 0 0 (runA ⟨posA, (lnF 54), [.bs ethF, .bs ipT] ++ .bs tcT :: [.row 32 (lN 0) (.var 32)], [.bs ethF, .bs ipT] ++ .bs tcT_loT :: [.row 32 (lN 0) (.var 32)], [notR eTcpho]⟩ (lnF 40) [] (rgL 31 31 24 24 176 191) (.fsl 32 zeroS zeroS (.var 32)) true) ([notR eTcpho] ++ []) = true := by kernel_rfl
theorem r_tl_lo11c : endsOk 0 0 0 (runA ⟨posA, (lnF 54), [.bs ethF, .bs ipT] ++ .bs tcT :: [.row 32 (lN 0) (.var 32)], [.bs ethF, .bs ipT] ++ .bs tcT_loT :: [.row 32 (lN 0) (.var 32)], [notR eTcpho]⟩ (lnF 40) [] (rgL 31 31 25 1000 176 191) (.fsl 32 zeroS zeroS (.var 32)) true) ([notR eTcpho] ++ []) = true := by kernel_rfl
theorem r_tl_lo12a : endsOk 0 0 0 (runA ⟨posA, (lnF 54), [.bs ethF, .bs ipT] ++ .bs tcT :: [.row 32 (lN 0) (.var 32)], [.bs ethF, .bs ipT] ++ .bs tcT_loT :: [.row 32 (lN 0) (.var 32)], [notR eTcpho]⟩ (lnF 40) [] (rgL 31 31 6 27 192 207) (.fsl 32 zeroS zeroS (.var 32)) true) ([notR eTcpho] ++ []) = true := by kernel_rfl
theorem r_tl_lo12b : endsOk 0 0 0 (runA ⟨posA, (lnF 54), [.bs ethF, .bs ipT] ++ .bs tcT :: [.row 32 (lN 0) (.var 32)], [.bs ethF, .bs ipT] ++ .bs tcT_loT :: [.row 32 (lN 0) (.var 32)], [notR eTcpho]⟩ (lnF 40) [] (rgL 31 31 28 28 192 207) (.fsl 32 zeroS zeroS (.var 32)) true) ([notR eTcpho] ++ []) = true := by kernel_rfl
theorem r_tl_lo12c : endsOk 0 0 0 (runA ⟨posA, (lnF 54), [.bs ethF, .bs ipT] ++ .bs tcT :: [.row 32 (lN 0) (.var 32)], [.bs ethF, .bs ipT] ++ .bs tcT_loT :: [.row 32 (lN 0) (.var 32)], [notR eTcpho]⟩ (lnF 40) [] (rgL 31 31 29 1000 192 207) (.fsl 32 zeroS zeroS (.var 32)) true) ([notR eTcpho] ++ []) = true := by kernel_rfl
theorem r_tl_lo13a : endsOk 0 0 0 (runA ⟨posA, (lnF 54), [.bs ethF, .bs ipT] ++ .bs tcT :: [.row 32 (lN 0) (.var 32)], [.bs ethF, .bs ipT] ++ .bs tcT_loT :: [.row 32 (lN 0) (.var 32)], [notR eTcpho]⟩ (lnF 40) [] (rgL 31 31 6 31 208 223) (.fsl 32 zeroS zeroS (.var 32)) true) ([notR eTcpho] ++ []) = true := by kernel_rfl
theorem r_tl_lo13b : endsOk 0 0 0 (runA ⟨posA, (lnF 54), [.bs ethF, .bs ipT] ++ .bs tcT :: [.row 32 (lN 0) (.var 32)], [.bs ethF, .bs ipT] ++ .bs tcT_loT :: [.row 32 (lN 0) (.var 32)], [notR eTcpho]⟩ (lnF 40) [] (rgL 31 31 32 32 208 223) (.fsl 32 zeroS zeroS (.var 32)) true) ([notR eTcpho] ++ []) = true := by kernel_rfl
theorem r_tl_lo13c : endsOk 0 0 0 (runA ⟨posA, (lnF 54), [.bs ethF, .bs ipT] ++ .bs tcT :: [.row 32 (lN 0) (.var 32)], [.bs ethF, .bs ipT] ++ .bs tcT_loT :: [.row 32 (lN 0) (.var 32)], [notR eTcpho]⟩ (lnF 40) [] (rgL 31 31 33 1000 208 223) (.fsl 32 zeroS zeroS (.var 32)) true) ([notR eTcpho] ++ []) = true := by kernel_rfl
theorem r_tl_lo14a : endsOk 0 0 0 (runA ⟨posA, (lnF 54), [.bs ethF, .bs ipT] ++ .bs tcT :: [.row 32 (lN 0) (.var 32)], [.bs ethF, .bs ipT] ++ .bs tcT_loT :: [.row 32 (lN 0) (.var 32)], [notR eTcpho]⟩ (lnF 40) [] (rgL 31 31 6 35 224 239) (.fsl 32 zeroS zeroS (.var 32)) true) ([notR eTcpho] ++ []) = true := by kernel_rfl

end Go.Proofs.YtjjfmhaakickcaaGreat

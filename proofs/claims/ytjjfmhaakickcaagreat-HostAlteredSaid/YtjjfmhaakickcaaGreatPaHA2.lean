/-
  HostAltered: runs.
-/
import Derived.Test.YtjjfmhaakickcaaGreatHbs
set_option linter.unusedVariables false
set_option linter.unusedSimpArgs false
namespace Go.Proofs.YtjjfmhaakickcaaGreat
open Go

set_option maxRecDepth 1000000
theorem r_te_lo1 : endsOk 0 0 0 (runA ⟨posA, (lN 60), [] ++ .bs aT :: [], [] ++ .bs aT_loTe :: [], []⟩ (lN 40) [] (rgL 31 31 0 0 96 255) (.osl 300 0 303) true) ([] ++ []) = true := by kernel_rfl
theorem r_tl_lo0 : endsOk 0 0 0 (runA ⟨posA, (lnF 54), [.bs ethF, .bs ipT] ++ .bs tcT :: [.row 32 (lN 0) (.var 32)], [.bs ethF, .bs ipT] ++ .bs tcT_loT :: [.row 32 (lN 0) (.var 32)], [notR eTcpho]⟩ (lnF 40) [] (rgL 31 31 6 1000 0 79) (.fsl 32 zeroS zeroS (.var 32)) true) ([notR eTcpho] ++ []) = true := by kernel_rfl
theorem r_tl_lo1 : endsOk 0 0 0 (runA ⟨posA, (lnF 54), [.bs ethF, .bs ipT] ++ .bs tcT :: [.row 32 (lN 0) (.var 32)], [.bs ethF, .bs ipT] ++ .bs tcT_loT :: [.row 32 (lN 0) (.var 32)], [notR eTcpho]⟩ (lnF 40) [] (rgL 31 31 6 1000 96 111) (.fsl 32 zeroS zeroS (.var 32)) true) ([notR eTcpho] ++ []) = true := by kernel_rfl
theorem r_tp_lo0 : endsOk 0 0 0 (runA ⟨posA, (lN 60), [.bs ethF, .bs ipT] ++ .bs tcT :: [.row 32 (lN 0) (.var 32), .fil (.bin .sub .i64 (lN 46) (lnF 40)) (lN 0)], [.bs ethF, .bs ipT] ++ .bs tcT_loT :: [.row 32 (lN 0) (.var 32), .fil (.bin .sub .i64 (lN 46) (lnF 40)) (lN 0)], [notR eTcpho]⟩ (lnF 40) [] (rgL 31 31 1 5 0 79) (.fsl 32 zeroS zeroS (.var 32)) true) ([notR eTcpho] ++ []) = true := by kernel_rfl
theorem r_tp_lo6a : endsOk 0 0 0 (runA ⟨posA, (lN 60), [.bs ethF, .bs ipT] ++ .bs tcT :: [.row 32 (lN 0) (.var 32), .fil (.bin .sub .i64 (lN 46) (lnF 40)) (lN 0)], [.bs ethF, .bs ipT] ++ .bs tcT_loT :: [.row 32 (lN 0) (.var 32), .fil (.bin .sub .i64 (lN 46) (lnF 40)) (lN 0)], [notR eTcpho]⟩ (lnF 40) [] (rgL 31 31 1 3 96 111) (.fsl 32 zeroS zeroS (.var 32)) true) ([notR eTcpho] ++ []) = true := by kernel_rfl
theorem r_tp_lo6b : endsOk 0 0 0 (runA ⟨posA, (lN 60), [.bs ethF, .bs ipT] ++ .bs tcT :: [.row 32 (lN 0) (.var 32), .fil (.bin .sub .i64 (lN 46) (lnF 40)) (lN 0)], [.bs ethF, .bs ipT] ++ .bs tcT_loT :: [.row 32 (lN 0) (.var 32), .fil (.bin .sub .i64 (lN 46) (lnF 40)) (lN 0)], [notR eTcpho]⟩ (lnF 40) [] (rgL 31 31 4 4 96 111) (.fsl 32 zeroS zeroS (.var 32)) true) ([notR eTcpho] ++ []) = true := by kernel_rfl
theorem r_tp_lo6c : endsOk 0 0 0 (runA ⟨posA, (lN 60), [.bs ethF, .bs ipT] ++ .bs tcT :: [.row 32 (lN 0) (.var 32), .fil (.bin .sub .i64 (lN 46) (lnF 40)) (lN 0)], [.bs ethF, .bs ipT] ++ .bs tcT_loT :: [.row 32 (lN 0) (.var 32), .fil (.bin .sub .i64 (lN 46) (lnF 40)) (lN 0)], [notR eTcpho]⟩ (lnF 40) [] (rgL 31 31 5 5 96 111) (.fsl 32 zeroS zeroS (.var 32)) true) ([notR eTcpho] ++ []) = true := by kernel_rfl
theorem r_tp_lo7 : endsOk 0 0 0 (runA ⟨posA, (lN 60), [.bs ethF, .bs ipT] ++ .bs tcT :: [.row 32 (lN 0) (.var 32), .fil (.bin .sub .i64 (lN 46) (lnF 40)) (lN 0)], [.bs ethF, .bs ipT] ++ .bs tcT_loT :: [.row 32 (lN 0) (.var 32), .fil (.bin .sub .i64 (lN 46) (lnF 40)) (lN 0)], [notR eTcpho]⟩ (lnF 40) [] (rgL 31 31 1 5 112 255) (.fsl 32 zeroS zeroS (.var 32)) true) ([notR eTcpho] ++ []) = true := by kernel_rfl
theorem r_tl_lo7a : endsOk 0 0 0 (runA ⟨posA, (lnF 54), [.bs ethF, .bs ipT] ++ .bs tcT :: [.row 32 (lN 0) (.var 32)], [.bs ethF, .bs ipT] ++ .bs tcT_loT :: [.row 32 (lN 0) (.var 32)], [notR eTcpho]⟩ (lnF 40) [] (rgL 31 31 6 7 112 127) (.fsl 32 zeroS zeroS (.var 32)) true) ([notR eTcpho] ++ []) = true := by kernel_rfl
theorem r_tl_lo7b : endsOk 0 0 0 (runA ⟨posA, (lnF 54), [.bs ethF, .bs ipT] ++ .bs tcT :: [.row 32 (lN 0) (.var 32)], [.bs ethF, .bs ipT] ++ .bs tcT_loT :: [.row 32 (lN 0) (.var 32)], [notR eTcpho]⟩ (lnF 40) [] (rgL 31 31 8 8 112 127) (.fsl 32 zeroS zeroS (.var 32)) true) ([notR eTcpho] ++ []) = true := by kernel_rfl

end Go.Proofs.YtjjfmhaakickcaaGreat

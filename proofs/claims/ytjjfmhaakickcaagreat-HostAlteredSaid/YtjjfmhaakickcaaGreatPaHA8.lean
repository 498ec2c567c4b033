/-
  HostAltered: runs.
-/
import Derived.Test.YtjjfmhaakickcaaGreatHbs
set_option linter.unusedVariables false
set_option linter.unusedSimpArgs false
namespace Go.Proofs.YtjjfmhaakickcaaGreat
open Go

set_option maxRecDepth 1000000
theorem r_tp_va91 : endsOk 0 0 0 (runA ⟨posA, (lN 60), [.bs ethF, .bs ipT] ++ .bs tcT :: [.row 32 (lN 0) (.var 32), .fil (.bin .sub .i64 (lN 46) (lnF 40)) (lN 0)], [.bs ethF, .bs ipT] ++ .bs (tcT.set 12 (lN 91)) :: [.row 32 (lN 0) (.var 32), .fil (.bin .sub .i64 (lN 46) (lnF 40)) (lN 0)], [notR (eTcpv 23367)]⟩ (lnF 40) [] (rgL 31 31 1 5 0 255) (.fsl 32 zeroS zeroS (.var 32)) true) ([notR (eTcpv 23367)] ++ []) = true := by kernel_rfl
theorem r_tp_va92 : endsOk 0 0 0 (runA ⟨posA, (lN 60), [.bs ethF, .bs ipT] ++ .bs tcT :: [.row 32 (lN 0) (.var 32), .fil (.bin .sub .i64 (lN 46) (lnF 40)) (lN 0)], [.bs ethF, .bs ipT] ++ .bs (tcT.set 12 (lN 92)) :: [.row 32 (lN 0) (.var 32), .fil (.bin .sub .i64 (lN 46) (lnF 40)) (lN 0)], [notR (eTcpv 23623)]⟩ (lnF 40) [] (rgL 31 31 1 5 0 255) (.fsl 32 zeroS zeroS (.var 32)) true) ([notR (eTcpv 23623)] ++ []) = true := by kernel_rfl
theorem r_tp_va93 : endsOk 0 0 0 (runA ⟨posA, (lN 60), [.bs ethF, .bs ipT] ++ .bs tcT :: [.row 32 (lN 0) (.var 32), .fil (.bin .sub .i64 (lN 46) (lnF 40)) (lN 0)], [.bs ethF, .bs ipT] ++ .bs (tcT.set 12 (lN 93)) :: [.row 32 (lN 0) (.var 32), .fil (.bin .sub .i64 (lN 46) (lnF 40)) (lN 0)], [notR (eTcpv 23879)]⟩ (lnF 40) [] (rgL 31 31 1 5 0 255) (.fsl 32 zeroS zeroS (.var 32)) true) ([notR (eTcpv 23879)] ++ []) = true := by kernel_rfl
theorem r_tp_va94 : endsOk 0 0 0 (runA ⟨posA, (lN 60), [.bs ethF, .bs ipT] ++ .bs tcT :: [.row 32 (lN 0) (.var 32), .fil (.bin .sub .i64 (lN 46) (lnF 40)) (lN 0)], [.bs ethF, .bs ipT] ++ .bs (tcT.set 12 (lN 94)) :: [.row 32 (lN 0) (.var 32), .fil (.bin .sub .i64 (lN 46) (lnF 40)) (lN 0)], [notR (eTcpv 24135)]⟩ (lnF 40) [] (rgL 31 31 1 5 0 255) (.fsl 32 zeroS zeroS (.var 32)) true) ([notR (eTcpv 24135)] ++ []) = true := by kernel_rfl
theorem r_tp_va95 : endsOk 0 0 0 (runA ⟨posA, (lN 60), [.bs ethF, .bs ipT] ++ .bs tcT :: [.row 32 (lN 0) (.var 32), .fil (.bin .sub .i64 (lN 46) (lnF 40)) (lN 0)], [.bs ethF, .bs ipT] ++ .bs (tcT.set 12 (lN 95)) :: [.row 32 (lN 0) (.var 32), .fil (.bin .sub .i64 (lN 46) (lnF 40)) (lN 0)], [notR (eTcpv 24391)]⟩ (lnF 40) [] (rgL 31 31 1 5 0 255) (.fsl 32 zeroS zeroS (.var 32)) true) ([notR (eTcpv 24391)] ++ []) = true := by kernel_rfl
theorem r_te_va81 : endsOk 0 0 0 (runA ⟨posA, (lN 60), [] ++ .bs aT :: [], [] ++ .bs (aT.set 46 (lN 81)) :: [], []⟩ (lN 40) [] (rgL 31 31 0 0 0 255) (.osl 300 0 303) true) ([] ++ []) = true := by kernel_rfl
theorem r_te_va82 : endsOk 0 0 0 (runA ⟨posA, (lN 60), [] ++ .bs aT :: [], [] ++ .bs (aT.set 46 (lN 82)) :: [], []⟩ (lN 40) [] (rgL 31 31 0 0 0 255) (.osl 300 0 303) true) ([] ++ []) = true := by kernel_rfl
theorem r_te_va83 : endsOk 0 0 0 (runA ⟨posA, (lN 60), [] ++ .bs aT :: [], [] ++ .bs (aT.set 46 (lN 83)) :: [], []⟩ (lN 40) [] (rgL 31 31 0 0 0 255) (.osl 300 0 303) true) ([] ++ []) = true := by kernel_rfl
theorem r_te_va84 : endsOk 0 0 0 (runA ⟨posA, (lN 60), [] ++ .bs aT :: [], [] ++ .bs (aT.set 46 (lN 84)) :: [], []⟩ (lN 40) [] (rgL 31 31 0 0 0 255) (.osl 300 0 303) true) ([] ++ []) = true := by kernel_rfl
theorem r_te_va85 : endsOk 0 0 0 (runA ⟨posA, (lN 60), [] ++ .bs aT :: [], [] ++ .bs (aT.set 46 (lN 85)) :: [], []⟩ (lN 40) [] (rgL 31 31 0 0 0 255) (.osl 300 0 303) true) ([] ++ []) = true := by kernel_rfl

end Go.Proofs.YtjjfmhaakickcaaGreat

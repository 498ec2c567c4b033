/-
  HostAltered: runs.
-/
import Derived.Test.YtjjfmhaakickcaaGreatHbs
set_option linter.unusedVariables false
set_option linter.unusedSimpArgs false
namespace Go.Proofs.YtjjfmhaakickcaaGreat
open Go

set_option maxRecDepth 1000000
theorem r_tl_va86 : endsOk 0 0 0 (runA ⟨posA, (lnF 54), [.bs ethF, .bs ipT] ++ .bs tcT :: [.row 32 (lN 0) (.var 32)], [.bs ethF, .bs ipT] ++ .bs (tcT.set 12 (lN 86)) :: [.row 32 (lN 0) (.var 32)], [notR (eTcpv 22087)]⟩ (lnF 40) [] (rgL 31 31 6 1000 0 255) (.fsl 32 zeroS zeroS (.var 32)) true) ([notR (eTcpv 22087)] ++ []) = true := by kernel_rfl
theorem r_tl_va87 : endsOk 0 0 0 (runA ⟨posA, (lnF 54), [.bs ethF, .bs ipT] ++ .bs tcT :: [.row 32 (lN 0) (.var 32)], [.bs ethF, .bs ipT] ++ .bs (tcT.set 12 (lN 87)) :: [.row 32 (lN 0) (.var 32)], [notR (eTcpv 22343)]⟩ (lnF 40) [] (rgL 31 31 6 1000 0 255) (.fsl 32 zeroS zeroS (.var 32)) true) ([notR (eTcpv 22343)] ++ []) = true := by kernel_rfl
theorem r_tl_va88 : endsOk 0 0 0 (runA ⟨posA, (lnF 54), [.bs ethF, .bs ipT] ++ .bs tcT :: [.row 32 (lN 0) (.var 32)], [.bs ethF, .bs ipT] ++ .bs (tcT.set 12 (lN 88)) :: [.row 32 (lN 0) (.var 32)], [notR (eTcpv 22599)]⟩ (lnF 40) [] (rgL 31 31 6 1000 0 255) (.fsl 32 zeroS zeroS (.var 32)) true) ([notR (eTcpv 22599)] ++ []) = true := by kernel_rfl
theorem r_tl_va89 : endsOk 0 0 0 (runA ⟨posA, (lnF 54), [.bs ethF, .bs ipT] ++ .bs tcT :: [.row 32 (lN 0) (.var 32)], [.bs ethF, .bs ipT] ++ .bs (tcT.set 12 (lN 89)) :: [.row 32 (lN 0) (.var 32)], [notR (eTcpv 22855)]⟩ (lnF 40) [] (rgL 31 31 6 1000 0 255) (.fsl 32 zeroS zeroS (.var 32)) true) ([notR (eTcpv 22855)] ++ []) = true := by kernel_rfl
theorem r_tl_va90 : endsOk 0 0 0 (runA ⟨posA, (lnF 54), [.bs ethF, .bs ipT] ++ .bs tcT :: [.row 32 (lN 0) (.var 32)], [.bs ethF, .bs ipT] ++ .bs (tcT.set 12 (lN 90)) :: [.row 32 (lN 0) (.var 32)], [notR (eTcpv 23111)]⟩ (lnF 40) [] (rgL 31 31 6 1000 0 255) (.fsl 32 zeroS zeroS (.var 32)) true) ([notR (eTcpv 23111)] ++ []) = true := by kernel_rfl
theorem r_tl_va91 : endsOk 0 0 0 (runA ⟨posA, (lnF 54), [.bs ethF, .bs ipT] ++ .bs tcT :: [.row 32 (lN 0) (.var 32)], [.bs ethF, .bs ipT] ++ .bs (tcT.set 12 (lN 91)) :: [.row 32 (lN 0) (.var 32)], [notR (eTcpv 23367)]⟩ (lnF 40) [] (rgL 31 31 6 1000 0 255) (.fsl 32 zeroS zeroS (.var 32)) true) ([notR (eTcpv 23367)] ++ []) = true := by kernel_rfl
theorem r_tl_va92 : endsOk 0 0 0 (runA ⟨posA, (lnF 54), [.bs ethF, .bs ipT] ++ .bs tcT :: [.row 32 (lN 0) (.var 32)], [.bs ethF, .bs ipT] ++ .bs (tcT.set 12 (lN 92)) :: [.row 32 (lN 0) (.var 32)], [notR (eTcpv 23623)]⟩ (lnF 40) [] (rgL 31 31 6 1000 0 255) (.fsl 32 zeroS zeroS (.var 32)) true) ([notR (eTcpv 23623)] ++ []) = true := by kernel_rfl
theorem r_tl_va93 : endsOk 0 0 0 (runA ⟨posA, (lnF 54), [.bs ethF, .bs ipT] ++ .bs tcT :: [.row 32 (lN 0) (.var 32)], [.bs ethF, .bs ipT] ++ .bs (tcT.set 12 (lN 93)) :: [.row 32 (lN 0) (.var 32)], [notR (eTcpv 23879)]⟩ (lnF 40) [] (rgL 31 31 6 1000 0 255) (.fsl 32 zeroS zeroS (.var 32)) true) ([notR (eTcpv 23879)] ++ []) = true := by kernel_rfl
theorem r_tl_va94 : endsOk 0 0 0 (runA ⟨posA, (lnF 54), [.bs ethF, .bs ipT] ++ .bs tcT :: [.row 32 (lN 0) (.var 32)], [.bs ethF, .bs ipT] ++ .bs (tcT.set 12 (lN 94)) :: [.row 32 (lN 0) (.var 32)], [notR (eTcpv 24135)]⟩ (lnF 40) [] (rgL 31 31 6 1000 0 255) (.fsl 32 zeroS zeroS (.var 32)) true) ([notR (eTcpv 24135)] ++ []) = true := by kernel_rfl
theorem r_tl_va95 : endsOk 0 0 0 (runA ⟨posA, (lnF 54), [.bs ethF, .bs ipT] ++ .bs tcT :: [.row 32 (lN 0) (.var 32)], [.bs ethF, .bs ipT] ++ .bs (tcT.set 12 (lN 95)) :: [.row 32 (lN 0) (.var 32)], [notR (eTcpv 24391)]⟩ (lnF 40) [] (rgL 31 31 6 1000 0 255) (.fsl 32 zeroS zeroS (.var 32)) true) ([notR (eTcpv 24391)] ++ []) = true := by kernel_rfl

end Go.Proofs.YtjjfmhaakickcaaGreat

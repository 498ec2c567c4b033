/-
  HostAltered: runs.
-/
import Derived.Test.YtjjfmhaakickcaaGreatHbs
set_option linter.unusedVariables false
set_option linter.unusedSimpArgs false
namespace Go.Proofs.YtjjfmhaakickcaaGreat
open Go

set_option maxRecDepth 1000000
theorem r_te_va86 : endsOk 0 0 0 (runA ⟨posA, (lN 60), [] ++ .bs aT :: [], [] ++ .bs (aT.set 46 (lN 86)) :: [], []⟩ (lN 40) [] (rgL 31 31 0 0 0 255) (.osl 300 0 303) true) ([] ++ []) = true := by kernel_rfl
theorem r_te_va87 : endsOk 0 0 0 (runA ⟨posA, (lN 60), [] ++ .bs aT :: [], [] ++ .bs (aT.set 46 (lN 87)) :: [], []⟩ (lN 40) [] (rgL 31 31 0 0 0 255) (.osl 300 0 303) true) ([] ++ []) = true := by kernel_rfl
theorem r_te_va88 : endsOk 0 0 0 (runA ⟨posA, (lN 60), [] ++ .bs aT :: [], [] ++ .bs (aT.set 46 (lN 88)) :: [], []⟩ (lN 40) [] (rgL 31 31 0 0 0 255) (.osl 300 0 303) true) ([] ++ []) = true := by kernel_rfl
theorem r_te_va89 : endsOk 0 0 0 (runA ⟨posA, (lN 60), [] ++ .bs aT :: [], [] ++ .bs (aT.set 46 (lN 89)) :: [], []⟩ (lN 40) [] (rgL 31 31 0 0 0 255) (.osl 300 0 303) true) ([] ++ []) = true := by kernel_rfl
theorem r_te_va90 : endsOk 0 0 0 (runA ⟨posA, (lN 60), [] ++ .bs aT :: [], [] ++ .bs (aT.set 46 (lN 90)) :: [], []⟩ (lN 40) [] (rgL 31 31 0 0 0 255) (.osl 300 0 303) true) ([] ++ []) = true := by kernel_rfl
theorem r_te_va91 : endsOk 0 0 0 (runA ⟨posA, (lN 60), [] ++ .bs aT :: [], [] ++ .bs (aT.set 46 (lN 91)) :: [], []⟩ (lN 40) [] (rgL 31 31 0 0 0 255) (.osl 300 0 303) true) ([] ++ []) = true := by kernel_rfl
theorem r_te_va92 : endsOk 0 0 0 (runA ⟨posA, (lN 60), [] ++ .bs aT :: [], [] ++ .bs (aT.set 46 (lN 92)) :: [], []⟩ (lN 40) [] (rgL 31 31 0 0 0 255) (.osl 300 0 303) true) ([] ++ []) = true := by kernel_rfl
theorem r_te_va93 : endsOk 0 0 0 (runA ⟨posA, (lN 60), [] ++ .bs aT :: [], [] ++ .bs (aT.set 46 (lN 93)) :: [], []⟩ (lN 40) [] (rgL 31 31 0 0 0 255) (.osl 300 0 303) true) ([] ++ []) = true := by kernel_rfl
theorem r_te_va94 : endsOk 0 0 0 (runA ⟨posA, (lN 60), [] ++ .bs aT :: [], [] ++ .bs (aT.set 46 (lN 94)) :: [], []⟩ (lN 40) [] (rgL 31 31 0 0 0 255) (.osl 300 0 303) true) ([] ++ []) = true := by kernel_rfl
theorem r_te_va95 : endsOk 0 0 0 (runA ⟨posA, (lN 60), [] ++ .bs aT :: [], [] ++ .bs (aT.set 46 (lN 95)) :: [], []⟩ (lN 40) [] (rgL 31 31 0 0 0 255) (.osl 300 0 303) true) ([] ++ []) = true := by kernel_rfl

end Go.Proofs.YtjjfmhaakickcaaGreat

/-
  Stages of WorldRefuses (nobody): what is known ahead by them.
-/
import Derived.Test.YtnhpfkjblnclnaaGreatSgTR0
import Derived.Test.YtnhpfkjblnclnaaGreatSgTR1
import Derived.Test.YtnhpfkjblnclnaaGreatSgTR2
import Derived.Test.YtnhpfkjblnclnaaGreatSgTR3
import Derived.Test.YtnhpfkjblnclnaaGreatSgFS
set_option linter.unusedVariables false
set_option linter.unusedSimpArgs false
namespace Go.Proofs.YtnhpfkjblnclnaaGreat.worldRefuses.t
open Go

noncomputable def stgs65 : List Stage := [g0, g1]
theorem stgs65_ok : ∀ g ∈ stgs65, StageOk Tryz.prog plans 65 g := by
  intro g hg
  simp only [stgs65, List.mem_cons, List.not_mem_nil, or_false] at hg
  rcases hg with rfl | rfl
  · exact g0_ok
  · exact g1_ok
noncomputable def stgs68 : List Stage := [g2, g5, g8, g11, g14, g17, g22, g25, g28, g33, g36, g39, g44, g47, g50, g55, g58, g61, g66, g69, g72, g77, g80, g83, g88]
theorem stgs68_ok : ∀ g ∈ stgs68, StageOk Tryz.prog plans 68 g := by
  intro g hg
  simp only [stgs68, List.mem_cons, List.not_mem_nil, or_false] at hg
  rcases hg with rfl | rfl | rfl | rfl | rfl | rfl | rfl | rfl | rfl | rfl | rfl | rfl | rfl | rfl | rfl | rfl | rfl | rfl | rfl | rfl | rfl | rfl | rfl | rfl | rfl
  · exact g2_ok
  · exact g5_ok
  · exact g8_ok
  · exact g11_ok
  · exact g14_ok
  · exact g17_ok
  · exact g22_ok
  · exact g25_ok
  · exact g28_ok
  · exact g33_ok
  · exact g36_ok
  · exact g39_ok
  · exact g44_ok
  · exact g47_ok
  · exact g50_ok
  · exact g55_ok
  · exact g58_ok
  · exact g61_ok
  · exact g66_ok
  · exact g69_ok
  · exact g72_ok
  · exact g77_ok
  · exact g80_ok
  · exact g83_ok
  · exact g88_ok
noncomputable def stgs70 : List Stage := [g3, g4, g6, g7, g9, g10, g12, g13, g15, g16, g18, g19, g20, g21, g23, g24, g26, g27, g29, g30, g31, g32, g34, g35, g37, g38, g40, g41, g42, g43, g45, g46, g48, g49, g51, g52, g53, g54, g56, g57, g59, g60, g62, g63, g64, g65, g67, g68, g70, g71, g73, g74, g75, g76, g78, g79, g81, g82, g84, g85, g86, g87, g89]
theorem stgs70_ok : ∀ g ∈ stgs70, StageOk Tryz.prog plans 70 g := by
  intro g hg
  simp only [stgs70, List.mem_cons, List.not_mem_nil, or_false] at hg
  rcases hg with rfl | rfl | rfl | rfl | rfl | rfl | rfl | rfl | rfl | rfl | rfl | rfl | rfl | rfl | rfl | rfl | rfl | rfl | rfl | rfl | rfl | rfl | rfl | rfl | rfl | rfl | rfl | rfl | rfl | rfl | rfl | rfl | rfl | rfl | rfl | rfl | rfl | rfl | rfl | rfl | rfl | rfl | rfl | rfl | rfl | rfl | rfl | rfl | rfl | rfl | rfl | rfl | rfl | rfl | rfl | rfl | rfl | rfl | rfl | rfl | rfl | rfl | rfl
  · exact g3_ok
  · exact g4_ok
  · exact g6_ok
  · exact g7_ok
  · exact g9_ok
  · exact g10_ok
  · exact g12_ok
  · exact g13_ok
  · exact g15_ok
  · exact g16_ok
  · exact g18_ok
  · exact g19_ok
  · exact g20_ok
  · exact g21_ok
  · exact g23_ok
  · exact g24_ok
  · exact g26_ok
  · exact g27_ok
  · exact g29_ok
  · exact g30_ok
  · exact g31_ok
  · exact g32_ok
  · exact g34_ok
  · exact g35_ok
  · exact g37_ok
  · exact g38_ok
  · exact g40_ok
  · exact g41_ok
  · exact g42_ok
  · exact g43_ok
  · exact g45_ok
  · exact g46_ok
  · exact g48_ok
  · exact g49_ok
  · exact g51_ok
  · exact g52_ok
  · exact g53_ok
  · exact g54_ok
  · exact g56_ok
  · exact g57_ok
  · exact g59_ok
  · exact g60_ok
  · exact g62_ok
  · exact g63_ok
  · exact g64_ok
  · exact g65_ok
  · exact g67_ok
  · exact g68_ok
  · exact g70_ok
  · exact g71_ok
  · exact g73_ok
  · exact g74_ok
  · exact g75_ok
  · exact g76_ok
  · exact g78_ok
  · exact g79_ok
  · exact g81_ok
  · exact g82_ok
  · exact g84_ok
  · exact g85_ok
  · exact g86_ok
  · exact g87_ok
  · exact g89_ok
noncomputable def sumsG : Sums := sumOr (sumStg 65 stgs65) (sumOr (sumStg 68 stgs68) (sumOr (sumStg 70 stgs70) (worldRefuses.f.sumsG)))
theorem sumsG_ok : SumsOk Tryz.prog sumsG := sumOr_ok (sumStg_ok follows_mixed plans_ok stgs65_ok) (sumOr_ok (sumStg_ok follows_mixed plans_ok stgs68_ok) (sumOr_ok (sumStg_ok follows_mixed plans_ok stgs70_ok) (worldRefuses.f.sumsG_ok)))

end Go.Proofs.YtnhpfkjblnclnaaGreat.worldRefuses.t

/-
  Stages of HubDeaf: what is known ahead by them.
-/
import Derived.Test.YtlmpmmcefdhgmaaGreatSgDR0
import Derived.Test.YtlmpmmcefdhgmaaGreatSgDR1
import Derived.Test.YtlmpmmcefdhgmaaGreatSgDR2
import Derived.Test.YtlmpmmcefdhgmaaGreatSgDR3
import Derived.Test.YtlmpmmcefdhgmaaGreatK18
import Derived.Test.YtlmpmmcefdhgmaaGreatSsb
set_option linter.unusedVariables false
set_option linter.unusedSimpArgs false
namespace Go.Proofs.YtlmpmmcefdhgmaaGreat.hubDeaf
open Go

noncomputable def stgs12 : List Stage := [g0, g2, g4, g6, g8, g10, g12, g14, g16, g18, g20, g22, g24, g26, g28, g30, g32, g34, g36, g38]
theorem stgs12_ok : ∀ g ∈ stgs12, StageOk Tryz.prog plans 12 g := by
  intro g hg
  simp only [stgs12, List.mem_cons, List.not_mem_nil, or_false] at hg
  rcases hg with rfl | rfl | rfl | rfl | rfl | rfl | rfl | rfl | rfl | rfl | rfl | rfl | rfl | rfl | rfl | rfl | rfl | rfl | rfl | rfl
  · exact g0_ok
  · exact g2_ok
  · exact g4_ok
  · exact g6_ok
  · exact g8_ok
  · exact g10_ok
  · exact g12_ok
  · exact g14_ok
  · exact g16_ok
  · exact g18_ok
  · exact g20_ok
  · exact g22_ok
  · exact g24_ok
  · exact g26_ok
  · exact g28_ok
  · exact g30_ok
  · exact g32_ok
  · exact g34_ok
  · exact g36_ok
  · exact g38_ok
noncomputable def stgs14 : List Stage := [g1, g3, g5, g7, g9, g11, g13, g15, g17, g19, g21, g23, g25, g27, g29, g31, g33, g35, g37, g39]
theorem stgs14_ok : ∀ g ∈ stgs14, StageOk Tryz.prog plans 14 g := by
  intro g hg
  simp only [stgs14, List.mem_cons, List.not_mem_nil, or_false] at hg
  rcases hg with rfl | rfl | rfl | rfl | rfl | rfl | rfl | rfl | rfl | rfl | rfl | rfl | rfl | rfl | rfl | rfl | rfl | rfl | rfl | rfl
  · exact g1_ok
  · exact g3_ok
  · exact g5_ok
  · exact g7_ok
  · exact g9_ok
  · exact g11_ok
  · exact g13_ok
  · exact g15_ok
  · exact g17_ok
  · exact g19_ok
  · exact g21_ok
  · exact g23_ok
  · exact g25_ok
  · exact g27_ok
  · exact g29_ok
  · exact g31_ok
  · exact g33_ok
  · exact g35_ok
  · exact g37_ok
  · exact g39_ok
noncomputable def sumsG : Sums := sumOr (sumStg 12 stgs12) (sumOr (sumStg 14 stgs14) (sumOr sumSorted sumsK18))
theorem sumsG_ok : SumsOk Tryz.prog sumsG := sumOr_ok (sumStg_ok follows_mixed plans_ok stgs12_ok) (sumOr_ok (sumStg_ok follows_mixed plans_ok stgs14_ok) (sumOr_ok sumSorted_ok sumsK18_ok))

end Go.Proofs.YtlmpmmcefdhgmaaGreat.hubDeaf

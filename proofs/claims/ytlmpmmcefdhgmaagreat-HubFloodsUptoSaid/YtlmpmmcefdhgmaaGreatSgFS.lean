/-
  Stages of HubFloods: what is known ahead by them.
-/
import Derived.Test.YtlmpmmcefdhgmaaGreatSgFR0
import Derived.Test.YtlmpmmcefdhgmaaGreatSgFR1
import Derived.Test.YtlmpmmcefdhgmaaGreatSgFR2
import Derived.Test.YtlmpmmcefdhgmaaGreatSgFR3
import Derived.Test.YtlmpmmcefdhgmaaGreatSgFR4
import Derived.Test.YtlmpmmcefdhgmaaGreatSgFR5
import Derived.Test.YtlmpmmcefdhgmaaGreatSgFR6
import Derived.Test.YtlmpmmcefdhgmaaGreatSgFR7
import Derived.Test.YtlmpmmcefdhgmaaGreatK18
set_option linter.unusedVariables false
set_option linter.unusedSimpArgs false
namespace Go.Proofs.YtlmpmmcefdhgmaaGreat.hubFloods
open Go

noncomputable def stgs9 : List Stage := [g0, g1, g2, g3, g4, g5, g6, g7, g8, g9, g10, g11, g12, g13, g14, g15, g16, g17, g18, g19, g20, g21, g22, g23, g24, g25, g26, g27, g28, g29, g30, g31]
theorem stgs9_ok : ∀ g ∈ stgs9, StageOk Tryz.prog plans 9 g := by
  intro g hg
  simp only [stgs9, List.mem_cons, List.not_mem_nil, or_false] at hg
  rcases hg with rfl | rfl | rfl | rfl | rfl | rfl | rfl | rfl | rfl | rfl | rfl | rfl | rfl | rfl | rfl | rfl | rfl | rfl | rfl | rfl | rfl | rfl | rfl | rfl | rfl | rfl | rfl | rfl | rfl | rfl | rfl | rfl
  · exact g0_ok
  · exact g1_ok
  · exact g2_ok
  · exact g3_ok
  · exact g4_ok
  · exact g5_ok
  · exact g6_ok
  · exact g7_ok
  · exact g8_ok
  · exact g9_ok
  · exact g10_ok
  · exact g11_ok
  · exact g12_ok
  · exact g13_ok
  · exact g14_ok
  · exact g15_ok
  · exact g16_ok
  · exact g17_ok
  · exact g18_ok
  · exact g19_ok
  · exact g20_ok
  · exact g21_ok
  · exact g22_ok
  · exact g23_ok
  · exact g24_ok
  · exact g25_ok
  · exact g26_ok
  · exact g27_ok
  · exact g28_ok
  · exact g29_ok
  · exact g30_ok
  · exact g31_ok
noncomputable def sumsG : Sums := sumOr (sumStg 9 stgs9) (sumsK18)
theorem sumsG_ok : SumsOk Tryz.prog sumsG := sumOr_ok (sumStg_ok follows_mixed plans_ok stgs9_ok) (sumsK18_ok)

end Go.Proofs.YtlmpmmcefdhgmaaGreat.hubFloods

/-
  Stages of SockRoom: what is known ahead by them.
-/
import Derived.Test.YtggoagemdhflfaaGreatSgRR0
import Derived.Test.YtggoagemdhflfaaGreatSgRR1
import Derived.Test.YtggoagemdhflfaaGreatSgRR2
import Derived.Test.YtggoagemdhflfaaGreatSgRR3
import Derived.Test.YtggoagemdhflfaaGreatK20
set_option linter.unusedVariables false
set_option linter.unusedSimpArgs false
namespace Go.Proofs.YtggoagemdhflfaaGreat.sockRoom
open Go

noncomputable def stgs29 : List Stage := [g0]
theorem stgs29_ok : ∀ g ∈ stgs29, StageOk Tryz.prog plans 29 g := by
  intro g hg
  simp only [stgs29, List.mem_cons, List.not_mem_nil, or_false] at hg
  rcases hg with rfl
  · exact g0_ok
noncomputable def stgs31 : List Stage := [g1, g2, g3, g4, g5, g6, g7, g8, g9, g10, g11, g12, g13, g14, g15, g16, g17, g18, g19, g20, g21, g22, g23, g24, g25, g26, g27, g28, g29, g30, g31, g32, g33, g34, g35, g36, g37, g38, g39, g40, g41, g42, g43, g44, g45, g46, g47, g48, g49, g50, g51, g52, g53, g54, g55, g56, g57, g58, g59, g60, g61, g62, g63, g64]
theorem stgs31_ok : ∀ g ∈ stgs31, StageOk Tryz.prog plans 31 g := by
  intro g hg
  simp only [stgs31, List.mem_cons, List.not_mem_nil, or_false] at hg
  rcases hg with rfl | rfl | rfl | rfl | rfl | rfl | rfl | rfl | rfl | rfl | rfl | rfl | rfl | rfl | rfl | rfl | rfl | rfl | rfl | rfl | rfl | rfl | rfl | rfl | rfl | rfl | rfl | rfl | rfl | rfl | rfl | rfl | rfl | rfl | rfl | rfl | rfl | rfl | rfl | rfl | rfl | rfl | rfl | rfl | rfl | rfl | rfl | rfl | rfl | rfl | rfl | rfl | rfl | rfl | rfl | rfl | rfl | rfl | rfl | rfl | rfl | rfl | rfl | rfl
  · exact g1_ok
  · exact g2_ok
  · exact g3_ok
  · exact g4_ok
  · exact g5_ok
  · exact g6_ok
  · exact g7_ok
  · exact g8_ok
  · exact g9_ok
  · exact g10_ok
  · exact g11_ok
  · exact g12_ok
  · exact g13_ok
  · exact g14_ok
  · exact g15_ok
  · exact g16_ok
  · exact g17_ok
  · exact g18_ok
  · exact g19_ok
  · exact g20_ok
  · exact g21_ok
  · exact g22_ok
  · exact g23_ok
  · exact g24_ok
  · exact g25_ok
  · exact g26_ok
  · exact g27_ok
  · exact g28_ok
  · exact g29_ok
  · exact g30_ok
  · exact g31_ok
  · exact g32_ok
  · exact g33_ok
  · exact g34_ok
  · exact g35_ok
  · exact g36_ok
  · exact g37_ok
  · exact g38_ok
  · exact g39_ok
  · exact g40_ok
  · exact g41_ok
  · exact g42_ok
  · exact g43_ok
  · exact g44_ok
  · exact g45_ok
  · exact g46_ok
  · exact g47_ok
  · exact g48_ok
  · exact g49_ok
  · exact g50_ok
  · exact g51_ok
  · exact g52_ok
  · exact g53_ok
  · exact g54_ok
  · exact g55_ok
  · exact g56_ok
  · exact g57_ok
  · exact g58_ok
  · exact g59_ok
  · exact g60_ok
  · exact g61_ok
  · exact g62_ok
  · exact g63_ok
  · exact g64_ok
noncomputable def sumsG : Sums := sumOr (sumStg 29 stgs29) (sumOr (sumStg 31 stgs31) (sumsK20))
theorem sumsG_ok : SumsOk Tryz.prog sumsG := sumOr_ok (sumStg_ok follows_mixed plans_ok stgs29_ok) (sumOr_ok (sumStg_ok follows_mixed plans_ok stgs31_ok) (sumsK20_ok))

end Go.Proofs.YtggoagemdhflfaaGreat.sockRoom

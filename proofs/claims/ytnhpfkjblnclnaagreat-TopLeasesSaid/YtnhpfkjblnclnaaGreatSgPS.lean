/-
  Stages of TopLeases, the beginning: what is known ahead by them.
-/
import Derived.Test.YtnhpfkjblnclnaaGreatSgPR0
import Derived.Test.YtnhpfkjblnclnaaGreatSgPR1
import Derived.Test.YtnhpfkjblnclnaaGreatKT
set_option linter.unusedVariables false
set_option linter.unusedSimpArgs false
namespace Go.Proofs.YtnhpfkjblnclnaaGreat.topLeases.p
open Go

noncomputable def stgs11 : List Stage := [g0, g1]
theorem stgs11_ok : ∀ g ∈ stgs11, StageOk Tryz.prog plansJ 11 g := by
  intro g hg
  simp only [stgs11, List.mem_cons, List.not_mem_nil, or_false] at hg
  rcases hg with rfl | rfl
  · exact g0_ok
  · exact g1_ok
noncomputable def stgs14 : List Stage := [g3, g7, g12, g16]
theorem stgs14_ok : ∀ g ∈ stgs14, StageOk Tryz.prog plansJ 14 g := by
  intro g hg
  simp only [stgs14, List.mem_cons, List.not_mem_nil, or_false] at hg
  rcases hg with rfl | rfl | rfl | rfl
  · exact g3_ok
  · exact g7_ok
  · exact g12_ok
  · exact g16_ok
noncomputable def stgs22 : List Stage := [g4, g8, g13, g17]
theorem stgs22_ok : ∀ g ∈ stgs22, StageOk Tryz.prog plansJ 22 g := by
  intro g hg
  simp only [stgs22, List.mem_cons, List.not_mem_nil, or_false] at hg
  rcases hg with rfl | rfl | rfl | rfl
  · exact g4_ok
  · exact g8_ok
  · exact g13_ok
  · exact g17_ok
noncomputable def stgs35 : List Stage := [g2, g6, g11, g15]
theorem stgs35_ok : ∀ g ∈ stgs35, StageOk Tryz.prog plansJ 35 g := by
  intro g hg
  simp only [stgs35, List.mem_cons, List.not_mem_nil, or_false] at hg
  rcases hg with rfl | rfl | rfl | rfl
  · exact g2_ok
  · exact g6_ok
  · exact g11_ok
  · exact g15_ok
noncomputable def stgs37 : List Stage := [g5, g9, g14, g18]
theorem stgs37_ok : ∀ g ∈ stgs37, StageOk Tryz.prog plansJ 37 g := by
  intro g hg
  simp only [stgs37, List.mem_cons, List.not_mem_nil, or_false] at hg
  rcases hg with rfl | rfl | rfl | rfl
  · exact g5_ok
  · exact g9_ok
  · exact g14_ok
  · exact g18_ok
noncomputable def stgs38 : List Stage := [g10, g19]
theorem stgs38_ok : ∀ g ∈ stgs38, StageOk Tryz.prog plansJ 38 g := by
  intro g hg
  simp only [stgs38, List.mem_cons, List.not_mem_nil, or_false] at hg
  rcases hg with rfl | rfl
  · exact g10_ok
  · exact g19_ok
noncomputable def sumsG : Sums := sumOr (sumStg 11 stgs11) (sumOr (sumStg 14 stgs14) (sumOr (sumStg 22 stgs22) (sumOr (sumStg 35 stgs35) (sumOr (sumStg 37 stgs37) (sumOr (sumStg 38 stgs38) (sumsKT))))))
theorem sumsG_ok : SumsOk Tryz.prog sumsG := sumOr_ok (sumStg_ok follows_mixed plansJ_ok stgs11_ok) (sumOr_ok (sumStg_ok follows_mixed plansJ_ok stgs14_ok) (sumOr_ok (sumStg_ok follows_mixed plansJ_ok stgs22_ok) (sumOr_ok (sumStg_ok follows_mixed plansJ_ok stgs35_ok) (sumOr_ok (sumStg_ok follows_mixed plansJ_ok stgs37_ok) (sumOr_ok (sumStg_ok follows_mixed plansJ_ok stgs38_ok) (sumsKT_ok))))))

end Go.Proofs.YtnhpfkjblnclnaaGreat.topLeases.p

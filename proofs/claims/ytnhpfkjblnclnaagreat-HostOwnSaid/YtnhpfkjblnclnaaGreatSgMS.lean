/-
  Stages of HostOwn, bytes: what is known ahead by them.
-/
import Derived.Test.YtnhpfkjblnclnaaGreatSgMR0
import Derived.Test.YtnhpfkjblnclnaaGreatSgMR1
import Derived.Test.YtnhpfkjblnclnaaGreatSgZS
set_option linter.unusedVariables false
set_option linter.unusedSimpArgs false
namespace Go.Proofs.YtnhpfkjblnclnaaGreat.hostOwn.m
open Go

noncomputable def stgs14 : List Stage := [g0, g1, g2, g3, g4, g5, g6, g7, g8, g9, g10, g11, g12, g13, g14, g15, g16, g17, g18, g19, g20, g21, g22, g23, g24, g25, g26, g27, g28, g29]
theorem stgs14_ok : ∀ g ∈ stgs14, StageOk Tryz.prog plansJ 14 g := by
  intro g hg
  simp only [stgs14, List.mem_cons, List.not_mem_nil, or_false] at hg
  rcases hg with rfl | rfl | rfl | rfl | rfl | rfl | rfl | rfl | rfl | rfl | rfl | rfl | rfl | rfl | rfl | rfl | rfl | rfl | rfl | rfl | rfl | rfl | rfl | rfl | rfl | rfl | rfl | rfl | rfl | rfl
  · exact g0_ok
  · exact g1_ok
  · exact g2_ok
  · exact g3_ok
  · exact g4_ok
  · exact g5_ok
  · exact g6_ok
  · exact g7_ok
  · exact g8_ok
  · exact g9_ok
  · exact g10_ok
  · exact g11_ok
  · exact g12_ok
  · exact g13_ok
  · exact g14_ok
  · exact g15_ok
  · exact g16_ok
  · exact g17_ok
  · exact g18_ok
  · exact g19_ok
  · exact g20_ok
  · exact g21_ok
  · exact g22_ok
  · exact g23_ok
  · exact g24_ok
  · exact g25_ok
  · exact g26_ok
  · exact g27_ok
  · exact g28_ok
  · exact g29_ok
noncomputable def sumsG : Sums := sumOr (sumStg 14 stgs14) (hostOwn.z.sumsG)
theorem sumsG_ok : SumsOk Tryz.prog sumsG := sumOr_ok (sumStg_ok follows_mixed plansJ_ok stgs14_ok) (hostOwn.z.sumsG_ok)

end Go.Proofs.YtnhpfkjblnclnaaGreat.hostOwn.m

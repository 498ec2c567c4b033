/-
  Stages of wharftop.known: what is known ahead by them.
-/
import Derived.Test.YtnhpfkjblnclnaaGreatSgKTR0
import Derived.Test.YtnhpfkjblnclnaaGreatSsq
set_option linter.unusedVariables false
set_option linter.unusedSimpArgs false
namespace Go.Proofs.YtnhpfkjblnclnaaGreat.ktop
open Go

noncomputable def stgs65 : List Stage := [g0, g1, g2, g3, g9]
theorem stgs65_ok : ∀ g ∈ stgs65, StageOk Tryz.prog plans 65 g := by
  intro g hg
  simp only [stgs65, List.mem_cons, List.not_mem_nil, or_false] at hg
  rcases hg with rfl | rfl | rfl | rfl | rfl
  · exact g0_ok
  · exact g1_ok
  · exact g2_ok
  · exact g3_ok
  · exact g9_ok
noncomputable def stgs68 : List Stage := [g4, g5, g6]
theorem stgs68_ok : ∀ g ∈ stgs68, StageOk Tryz.prog plans 68 g := by
  intro g hg
  simp only [stgs68, List.mem_cons, List.not_mem_nil, or_false] at hg
  rcases hg with rfl | rfl | rfl
  · exact g4_ok
  · exact g5_ok
  · exact g6_ok
noncomputable def stgs70 : List Stage := [g7, g8]
theorem stgs70_ok : ∀ g ∈ stgs70, StageOk Tryz.prog plans 70 g := by
  intro g hg
  simp only [stgs70, List.mem_cons, List.not_mem_nil, or_false] at hg
  rcases hg with rfl | rfl
  · exact g7_ok
  · exact g8_ok
noncomputable def sumsG : Sums := sumOr (sumStg 65 stgs65) (sumOr (sumStg 68 stgs68) (sumOr (sumStg 70 stgs70) (sumsQ)))
theorem sumsG_ok : SumsOk Tryz.prog sumsG := sumOr_ok (sumStg_ok follows_mixed plans_ok stgs65_ok) (sumOr_ok (sumStg_ok follows_mixed plans_ok stgs68_ok) (sumOr_ok (sumStg_ok follows_mixed plans_ok stgs70_ok) (sumsQ_ok)))

end Go.Proofs.YtnhpfkjblnclnaaGreat.ktop

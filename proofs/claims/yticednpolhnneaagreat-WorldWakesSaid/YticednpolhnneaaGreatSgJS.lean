/-
  Stages of WorldWakes: what is known ahead by them.
-/
import Derived.Test.YticednpolhnneaaGreatSgJR0
import Derived.Test.YticednpolhnneaaGreatK24
set_option linter.unusedVariables false
set_option linter.unusedSimpArgs false
namespace Go.Proofs.YticednpolhnneaaGreat.worldWakes
open Go

noncomputable def stgs36 : List Stage := [g0]
theorem stgs36_ok : ∀ g ∈ stgs36, StageOk Tryz.prog plansW 36 g := by
  intro g hg
  simp only [stgs36, List.mem_cons, List.not_mem_nil, or_false] at hg
  rcases hg with rfl
  · exact g0_ok
noncomputable def sumsG : Sums := sumOr (sumStg 36 stgs36) (sumsK24)
theorem sumsG_ok : SumsOk Tryz.prog sumsG := sumOr_ok (sumStg_ok follows_mixed plansW_ok stgs36_ok) (sumsK24_ok)

end Go.Proofs.YticednpolhnneaaGreat.worldWakes

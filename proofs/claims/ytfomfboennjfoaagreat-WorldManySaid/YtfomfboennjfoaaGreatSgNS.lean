/-
  Stages of WorldMany: joined: what is known ahead by them.
-/
import Derived.Test.YtfomfboennjfoaaGreatSgNR0
import Derived.Test.YtfomfboennjfoaaGreatKM
import Derived.Test.YtfomfboennjfoaaGreatStk
set_option linter.unusedVariables false
set_option linter.unusedSimpArgs false
namespace Go.Proofs.YtfomfboennjfoaaGreat.worldMany.j
open Go

noncomputable def stgs25 : List Stage := [g0]
theorem stgs25_ok : ∀ g ∈ stgs25, StageOk Tryz.prog plansJm 25 g := by
  intro g hg
  simp only [stgs25, List.mem_cons, List.not_mem_nil, or_false] at hg
  rcases hg with rfl
  · exact g0_ok
noncomputable def sumsG : Sums := sumOr (sumStg 25 stgs25) (sumsKM)
theorem sumsG_ok : SumsOk Tryz.prog sumsG := sumOr_ok (sumStg_ok follows_mixed plansJm_ok stgs25_ok) (sumsKM_ok)

end Go.Proofs.YtfomfboennjfoaaGreat.worldMany.j

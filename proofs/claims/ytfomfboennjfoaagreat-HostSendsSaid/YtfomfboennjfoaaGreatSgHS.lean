/-
  Stages of HostSends: what is known ahead by them.
-/
import Derived.Test.YtfomfboennjfoaaGreatSgHR0
import Derived.Test.YtfomfboennjfoaaGreatSgHR1
import Derived.Test.YtfomfboennjfoaaGreatK19
set_option linter.unusedVariables false
set_option linter.unusedSimpArgs false
namespace Go.Proofs.YtfomfboennjfoaaGreat.hostSends
open Go

noncomputable def sumsm : Sums := sumOr (sumStg 16 [gm_1]) (sumOr (sumStg 15 [gm_0]) (sumsK19))
theorem sumsm_ok : SumsOk Tryz.prog sumsm := sumOr_ok (sumStg_ok follows_mixed plansJ_ok (List.forall_mem_cons.2 ⟨gm_1_ok, fun g hg => by cases hg⟩)) (sumOr_ok (sumStg_ok follows_mixed plansJ_ok (List.forall_mem_cons.2 ⟨gm_0_ok, fun g hg => by cases hg⟩)) (sumsK19_ok))
noncomputable def sumsz : Sums := sumOr (sumStg 16 [gz_1]) (sumOr (sumStg 15 [gz_0]) (sumsK19))
theorem sumsz_ok : SumsOk Tryz.prog sumsz := sumOr_ok (sumStg_ok follows_mixed plansJ_ok (List.forall_mem_cons.2 ⟨gz_1_ok, fun g hg => by cases hg⟩)) (sumOr_ok (sumStg_ok follows_mixed plansJ_ok (List.forall_mem_cons.2 ⟨gz_0_ok, fun g hg => by cases hg⟩)) (sumsK19_ok))

end Go.Proofs.YtfomfboennjfoaaGreat.hostSends

/-
  Stages of HostSends: that they run so.
-/
import Derived.Test.YtfomfboennjfoaaGreatSgH
import Derived.Test.YtfomfboennjfoaaGreatPlJ
import Derived.Test.YtfomfboennjfoaaGreatSsh
set_option linter.unusedVariables false
set_option linter.unusedSimpArgs false
namespace Go.Proofs.YtfomfboennjfoaaGreat.hostSends
open Go

set_option maxRecDepth 1000000 in
theorem gm_0_ok : StageOk Tryz.prog plansJ 15 gm_0 := stage_mk sumsN_ok (by kernel_rfl) (by kernel_rfl)
set_option maxRecDepth 1000000 in
theorem gm_1_ok : StageOk Tryz.prog plansJ 16 gm_1 := stage_mk sumsN_ok (by kernel_rfl) (by kernel_rfl)

end Go.Proofs.YtfomfboennjfoaaGreat.hostSends

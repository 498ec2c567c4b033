/-
  Stages of WorldBoth: that they run so.
-/
import Derived.Test.YtfomfboennjfoaaGreatSgM
import Derived.Test.YtfomfboennjfoaaGreatPls
import Derived.Test.YtfomfboennjfoaaGreatSsqn
set_option linter.unusedVariables false
set_option linter.unusedSimpArgs false
namespace Go.Proofs.YtfomfboennjfoaaGreat.worldBoth
open Go

set_option maxRecDepth 1000000 in
theorem g3a3a_13_ok : StageOk Tryz.prog plans 58 g3a3a_13 := stage_mk sumsQ_ok (by kernel_rfl) (by kernel_rfl)
set_option maxRecDepth 1000000 in
theorem g3a3a_14_ok : StageOk Tryz.prog plans 60 g3a3a_14 := stage_mk sumsQ_ok (by kernel_rfl) (by kernel_rfl)

end Go.Proofs.YtfomfboennjfoaaGreat.worldBoth

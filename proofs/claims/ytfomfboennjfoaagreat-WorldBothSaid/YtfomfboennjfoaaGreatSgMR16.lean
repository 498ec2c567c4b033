/-
  Stages of WorldBoth: that they run so.
-/
import Derived.Test.YtfomfboennjfoaaGreatSgM
import Derived.Test.YtfomfboennjfoaaGreatPls
import Derived.Test.YtfomfboennjfoaaGreatSsqn
set_option linter.unusedVariables false
set_option linter.unusedSimpArgs false
namespace Go.Proofs.YtfomfboennjfoaaGreat.worldBoth
open Go

set_option maxRecDepth 1000000 in
theorem g3a2a_2_ok : StageOk Tryz.prog plans 58 g3a2a_2 := stage_mk sumsQ_ok (by kernel_rfl) (by kernel_rfl)
set_option maxRecDepth 1000000 in
theorem g3a2a_3_ok : StageOk Tryz.prog plans 58 g3a2a_3 := stage_mk sumsQ_ok (by kernel_rfl) (by kernel_rfl)
set_option maxRecDepth 1000000 in
theorem g3a2a_4_ok : StageOk Tryz.prog plans 58 g3a2a_4 := stage_mk sumsQ_ok (by kernel_rfl) (by kernel_rfl)
set_option maxRecDepth 1000000 in
theorem g3a2a_5_ok : StageOk Tryz.prog plans 58 g3a2a_5 := stage_mk sumsQ_ok (by kernel_rfl) (by kernel_rfl)
set_option maxRecDepth 1000000 in
theorem g3a2a_6_ok : StageOk Tryz.prog plans 58 g3a2a_6 := stage_mk sumsQ_ok (by kernel_rfl) (by kernel_rfl)
set_option maxRecDepth 1000000 in
theorem g3a2a_7_ok : StageOk Tryz.prog plans 58 g3a2a_7 := stage_mk sumsQ_ok (by kernel_rfl) (by kernel_rfl)
set_option maxRecDepth 1000000 in
theorem g3a2a_8_ok : StageOk Tryz.prog plans 60 g3a2a_8 := stage_mk sumsQ_ok (by kernel_rfl) (by kernel_rfl)
set_option maxRecDepth 1000000 in
theorem g3a2a_9_ok : StageOk Tryz.prog plans 60 g3a2a_9 := stage_mk sumsQ_ok (by kernel_rfl) (by kernel_rfl)

end Go.Proofs.YtfomfboennjfoaaGreat.worldBoth

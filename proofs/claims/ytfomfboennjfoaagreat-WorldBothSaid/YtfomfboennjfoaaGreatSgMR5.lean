/-
  Stages of WorldBoth: that they run so.
-/
import Derived.Test.YtfomfboennjfoaaGreatSgM
import Derived.Test.YtfomfboennjfoaaGreatPls
import Derived.Test.YtfomfboennjfoaaGreatSsqn
set_option linter.unusedVariables false
set_option linter.unusedSimpArgs false
namespace Go.Proofs.YtfomfboennjfoaaGreat.worldBoth
open Go

set_option maxRecDepth 1000000 in
theorem g2a1_7_ok : StageOk Tryz.prog plans 58 g2a1_7 := stage_mk sumsQ_ok (by kernel_rfl) (by kernel_rfl)
set_option maxRecDepth 1000000 in
theorem g2a1_8_ok : StageOk Tryz.prog plans 58 g2a1_8 := stage_mk sumsQ_ok (by kernel_rfl) (by kernel_rfl)
set_option maxRecDepth 1000000 in
theorem g2a1_9_ok : StageOk Tryz.prog plans 60 g2a1_9 := stage_mk sumsQ_ok (by kernel_rfl) (by kernel_rfl)
set_option maxRecDepth 1000000 in
theorem g2a1_10_ok : StageOk Tryz.prog plans 60 g2a1_10 := stage_mk sumsQ_ok (by kernel_rfl) (by kernel_rfl)
set_option maxRecDepth 1000000 in
theorem g2a1_11_ok : StageOk Tryz.prog plans 58 g2a1_11 := stage_mk sumsQ_ok (by kernel_rfl) (by kernel_rfl)
set_option maxRecDepth 1000000 in
theorem g2a1_12_ok : StageOk Tryz.prog plans 60 g2a1_12 := stage_mk sumsQ_ok (by kernel_rfl) (by kernel_rfl)
set_option maxRecDepth 1000000 in
theorem g2a2a_2_ok : StageOk Tryz.prog plans 58 g2a2a_2 := stage_mk sumsQ_ok (by kernel_rfl) (by kernel_rfl)
set_option maxRecDepth 1000000 in
theorem g2a2a_3_ok : StageOk Tryz.prog plans 58 g2a2a_3 := stage_mk sumsQ_ok (by kernel_rfl) (by kernel_rfl)

end Go.Proofs.YtfomfboennjfoaaGreat.worldBoth

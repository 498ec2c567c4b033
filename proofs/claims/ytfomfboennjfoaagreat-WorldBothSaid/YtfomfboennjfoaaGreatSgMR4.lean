/-
  Stages of WorldBoth: that they run so.
-/
import Derived.Test.YtfomfboennjfoaaGreatSgM
import Derived.Test.YtfomfboennjfoaaGreatPls
import Derived.Test.YtfomfboennjfoaaGreatSsqn
set_option linter.unusedVariables false
set_option linter.unusedSimpArgs false
namespace Go.Proofs.YtfomfboennjfoaaGreat.worldBoth
open Go

set_option maxRecDepth 1000000 in
theorem g13a_8_ok : StageOk Tryz.prog plans 60 g13a_8 := stage_mk sumsQ_ok (by kernel_rfl) (by kernel_rfl)
set_option maxRecDepth 1000000 in
theorem g13a_9_ok : StageOk Tryz.prog plans 58 g13a_9 := stage_mk sumsQ_ok (by kernel_rfl) (by kernel_rfl)
set_option maxRecDepth 1000000 in
theorem g13a_10_ok : StageOk Tryz.prog plans 60 g13a_10 := stage_mk sumsQ_ok (by kernel_rfl) (by kernel_rfl)
set_option maxRecDepth 1000000 in
theorem g2a1_2_ok : StageOk Tryz.prog plans 58 g2a1_2 := stage_mk sumsQ_ok (by kernel_rfl) (by kernel_rfl)
set_option maxRecDepth 1000000 in
theorem g2a1_3_ok : StageOk Tryz.prog plans 58 g2a1_3 := stage_mk sumsQ_ok (by kernel_rfl) (by kernel_rfl)
set_option maxRecDepth 1000000 in
theorem g2a1_4_ok : StageOk Tryz.prog plans 60 g2a1_4 := stage_mk sumsQ_ok (by kernel_rfl) (by kernel_rfl)
set_option maxRecDepth 1000000 in
theorem g2a1_5_ok : StageOk Tryz.prog plans 60 g2a1_5 := stage_mk sumsQ_ok (by kernel_rfl) (by kernel_rfl)
set_option maxRecDepth 1000000 in
theorem g2a1_6_ok : StageOk Tryz.prog plans 58 g2a1_6 := stage_mk sumsQ_ok (by kernel_rfl) (by kernel_rfl)

end Go.Proofs.YtfomfboennjfoaaGreat.worldBoth

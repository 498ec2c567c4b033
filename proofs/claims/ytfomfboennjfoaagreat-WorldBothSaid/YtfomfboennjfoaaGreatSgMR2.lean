/-
  Stages of WorldBoth: that they run so.
-/
import Derived.Test.YtfomfboennjfoaaGreatSgM
import Derived.Test.YtfomfboennjfoaaGreatPls
import Derived.Test.YtfomfboennjfoaaGreatSsqn
set_option linter.unusedVariables false
set_option linter.unusedSimpArgs false
namespace Go.Proofs.YtfomfboennjfoaaGreat.worldBoth
open Go

set_option maxRecDepth 1000000 in
theorem g12a_11_ok : StageOk Tryz.prog plans 58 g12a_11 := stage_mk sumsQ_ok (by kernel_rfl) (by kernel_rfl)
set_option maxRecDepth 1000000 in
theorem g12a_12_ok : StageOk Tryz.prog plans 60 g12a_12 := stage_mk sumsQ_ok (by kernel_rfl) (by kernel_rfl)
set_option maxRecDepth 1000000 in
theorem g12c_2_ok : StageOk Tryz.prog plans 58 g12c_2 := stage_mk sumsQ_ok (by kernel_rfl) (by kernel_rfl)
set_option maxRecDepth 1000000 in
theorem g12c_3_ok : StageOk Tryz.prog plans 58 g12c_3 := stage_mk sumsQ_ok (by kernel_rfl) (by kernel_rfl)
set_option maxRecDepth 1000000 in
theorem g12c_4_ok : StageOk Tryz.prog plans 58 g12c_4 := stage_mk sumsQ_ok (by kernel_rfl) (by kernel_rfl)
set_option maxRecDepth 1000000 in
theorem g12c_5_ok : StageOk Tryz.prog plans 58 g12c_5 := stage_mk sumsQ_ok (by kernel_rfl) (by kernel_rfl)
set_option maxRecDepth 1000000 in
theorem g12c_6_ok : StageOk Tryz.prog plans 60 g12c_6 := stage_mk sumsQ_ok (by kernel_rfl) (by kernel_rfl)
set_option maxRecDepth 1000000 in
theorem g12c_7_ok : StageOk Tryz.prog plans 60 g12c_7 := stage_mk sumsQ_ok (by kernel_rfl) (by kernel_rfl)

end Go.Proofs.YtfomfboennjfoaaGreat.worldBoth

/-
  Stages of WorldMany: that they run so.
-/
import Derived.Test.YtfomfboennjfoaaGreatSgW
import Derived.Test.YtfomfboennjfoaaGreatPls
import Derived.Test.YtfomfboennjfoaaGreatStk
set_option linter.unusedVariables false
set_option linter.unusedSimpArgs false
namespace Go.Proofs.YtfomfboennjfoaaGreat.worldMany
open Go

set_option maxRecDepth 1000000 in
theorem gm_16_ok : StageOk Tryz.prog plans 58 gm_16 := stage_mk sumsT_ok (by kernel_rfl) (by kernel_rfl)
set_option maxRecDepth 1000000 in
theorem gm_17_ok : StageOk Tryz.prog plans 58 gm_17 := stage_mk sumsT_ok (by kernel_rfl) (by kernel_rfl)
set_option maxRecDepth 1000000 in
theorem gm_18_ok : StageOk Tryz.prog plans 60 gm_18 := stage_mk sumsT_ok (by kernel_rfl) (by kernel_rfl)
set_option maxRecDepth 1000000 in
theorem gm_19_ok : StageOk Tryz.prog plans 60 gm_19 := stage_mk sumsT_ok (by kernel_rfl) (by kernel_rfl)
set_option maxRecDepth 1000000 in
theorem gm_20_ok : StageOk Tryz.prog plans 58 gm_20 := stage_mk sumsT_ok (by kernel_rfl) (by kernel_rfl)
set_option maxRecDepth 1000000 in
theorem gm_21_ok : StageOk Tryz.prog plans 55 gm_21 := stage_mk sumsT_ok (by kernel_rfl) (by kernel_rfl)
set_option maxRecDepth 1000000 in
theorem gm_22_ok : StageOk Tryz.prog plans 58 gm_22 := stage_mk sumsT_ok (by kernel_rfl) (by kernel_rfl)
set_option maxRecDepth 1000000 in
theorem gm_23_ok : StageOk Tryz.prog plans 60 gm_23 := stage_mk sumsT_ok (by kernel_rfl) (by kernel_rfl)

end Go.Proofs.YtfomfboennjfoaaGreat.worldMany

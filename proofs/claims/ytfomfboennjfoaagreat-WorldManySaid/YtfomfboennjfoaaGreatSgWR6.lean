/-
  Stages of WorldMany: that they run so.
-/
import Derived.Test.YtfomfboennjfoaaGreatSgW
import Derived.Test.YtfomfboennjfoaaGreatPls
import Derived.Test.YtfomfboennjfoaaGreatStk
set_option linter.unusedVariables false
set_option linter.unusedSimpArgs false
namespace Go.Proofs.YtfomfboennjfoaaGreat.worldMany
open Go

set_option maxRecDepth 1000000 in
theorem gm_48_ok : StageOk Tryz.prog plans 58 gm_48 := stage_mk sumsT_ok (by kernel_rfl) (by kernel_rfl)
set_option maxRecDepth 1000000 in
theorem gm_49_ok : StageOk Tryz.prog plans 55 gm_49 := stage_mk sumsT_ok (by kernel_rfl) (by kernel_rfl)
set_option maxRecDepth 1000000 in
theorem gm_50_ok : StageOk Tryz.prog plans 58 gm_50 := stage_mk sumsT_ok (by kernel_rfl) (by kernel_rfl)
set_option maxRecDepth 1000000 in
theorem gm_51_ok : StageOk Tryz.prog plans 60 gm_51 := stage_mk sumsT_ok (by kernel_rfl) (by kernel_rfl)
set_option maxRecDepth 1000000 in
theorem gm_52_ok : StageOk Tryz.prog plans 60 gm_52 := stage_mk sumsT_ok (by kernel_rfl) (by kernel_rfl)
set_option maxRecDepth 1000000 in
theorem gm_53_ok : StageOk Tryz.prog plans 55 gm_53 := stage_mk sumsT_ok (by kernel_rfl) (by kernel_rfl)
set_option maxRecDepth 1000000 in
theorem gm_54_ok : StageOk Tryz.prog plans 55 gm_54 := stage_mk sumsT_ok (by kernel_rfl) (by kernel_rfl)
set_option maxRecDepth 1000000 in
theorem gm_55_ok : StageOk Tryz.prog plans 55 gm_55 := stage_mk sumsT_ok (by kernel_rfl) (by kernel_rfl)

end Go.Proofs.YtfomfboennjfoaaGreat.worldMany

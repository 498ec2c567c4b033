/-
  Stages of WorldMany: that they run so.
-/
import Derived.Test.YtfomfboennjfoaaGreatSgW
import Derived.Test.YtfomfboennjfoaaGreatPls
import Derived.Test.YtfomfboennjfoaaGreatStk
set_option linter.unusedVariables false
set_option linter.unusedSimpArgs false
namespace Go.Proofs.YtfomfboennjfoaaGreat.worldMany
open Go

set_option maxRecDepth 1000000 in
theorem gm_80_ok : StageOk Tryz.prog plans 60 gm_80 := stage_mk sumsT_ok (by kernel_rfl) (by kernel_rfl)
set_option maxRecDepth 1000000 in
theorem gm_81_ok : StageOk Tryz.prog plans 55 gm_81 := stage_mk sumsT_ok (by kernel_rfl) (by kernel_rfl)
set_option maxRecDepth 1000000 in
theorem gm_82_ok : StageOk Tryz.prog plans 55 gm_82 := stage_mk sumsT_ok (by kernel_rfl) (by kernel_rfl)
set_option maxRecDepth 1000000 in
theorem gm_83_ok : StageOk Tryz.prog plans 55 gm_83 := stage_mk sumsT_ok (by kernel_rfl) (by kernel_rfl)
set_option maxRecDepth 1000000 in
theorem gm_84_ok : StageOk Tryz.prog plans 55 gm_84 := stage_mk sumsT_ok (by kernel_rfl) (by kernel_rfl)
set_option maxRecDepth 1000000 in
theorem gm_85_ok : StageOk Tryz.prog plans 58 gm_85 := stage_mk sumsT_ok (by kernel_rfl) (by kernel_rfl)
set_option maxRecDepth 1000000 in
theorem gm_86_ok : StageOk Tryz.prog plans 58 gm_86 := stage_mk sumsT_ok (by kernel_rfl) (by kernel_rfl)
set_option maxRecDepth 1000000 in
theorem gm_87_ok : StageOk Tryz.prog plans 58 gm_87 := stage_mk sumsT_ok (by kernel_rfl) (by kernel_rfl)

end Go.Proofs.YtfomfboennjfoaaGreat.worldMany

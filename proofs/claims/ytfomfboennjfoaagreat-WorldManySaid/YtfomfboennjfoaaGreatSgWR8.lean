/-
  Stages of WorldMany: that they run so.
-/
import Derived.Test.YtfomfboennjfoaaGreatSgW
import Derived.Test.YtfomfboennjfoaaGreatPls
import Derived.Test.YtfomfboennjfoaaGreatStk
set_option linter.unusedVariables false
set_option linter.unusedSimpArgs false
namespace Go.Proofs.YtfomfboennjfoaaGreat.worldMany
open Go

set_option maxRecDepth 1000000 in
theorem gm_64_ok : StageOk Tryz.prog plans 58 gm_64 := stage_mk sumsT_ok (by kernel_rfl) (by kernel_rfl)
set_option maxRecDepth 1000000 in
theorem gm_65_ok : StageOk Tryz.prog plans 60 gm_65 := stage_mk sumsT_ok (by kernel_rfl) (by kernel_rfl)
set_option maxRecDepth 1000000 in
theorem gm_66_ok : StageOk Tryz.prog plans 60 gm_66 := stage_mk sumsT_ok (by kernel_rfl) (by kernel_rfl)
set_option maxRecDepth 1000000 in
theorem gm_67_ok : StageOk Tryz.prog plans 55 gm_67 := stage_mk sumsT_ok (by kernel_rfl) (by kernel_rfl)
set_option maxRecDepth 1000000 in
theorem gm_68_ok : StageOk Tryz.prog plans 55 gm_68 := stage_mk sumsT_ok (by kernel_rfl) (by kernel_rfl)
set_option maxRecDepth 1000000 in
theorem gm_69_ok : StageOk Tryz.prog plans 55 gm_69 := stage_mk sumsT_ok (by kernel_rfl) (by kernel_rfl)
set_option maxRecDepth 1000000 in
theorem gm_70_ok : StageOk Tryz.prog plans 55 gm_70 := stage_mk sumsT_ok (by kernel_rfl) (by kernel_rfl)
set_option maxRecDepth 1000000 in
theorem gm_71_ok : StageOk Tryz.prog plans 58 gm_71 := stage_mk sumsT_ok (by kernel_rfl) (by kernel_rfl)

end Go.Proofs.YtfomfboennjfoaaGreat.worldMany

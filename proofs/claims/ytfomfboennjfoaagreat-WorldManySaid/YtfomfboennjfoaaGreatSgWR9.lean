/-
  Stages of WorldMany: that they run so.
-/
import Derived.Test.YtfomfboennjfoaaGreatSgW
import Derived.Test.YtfomfboennjfoaaGreatPls
import Derived.Test.YtfomfboennjfoaaGreatStk
set_option linter.unusedVariables false
set_option linter.unusedSimpArgs false
namespace Go.Proofs.YtfomfboennjfoaaGreat.worldMany
open Go

set_option maxRecDepth 1000000 in
theorem gm_72_ok : StageOk Tryz.prog plans 58 gm_72 := stage_mk sumsT_ok (by kernel_rfl) (by kernel_rfl)
set_option maxRecDepth 1000000 in
theorem gm_73_ok : StageOk Tryz.prog plans 58 gm_73 := stage_mk sumsT_ok (by kernel_rfl) (by kernel_rfl)
set_option maxRecDepth 1000000 in
theorem gm_74_ok : StageOk Tryz.prog plans 60 gm_74 := stage_mk sumsT_ok (by kernel_rfl) (by kernel_rfl)
set_option maxRecDepth 1000000 in
theorem gm_75_ok : StageOk Tryz.prog plans 60 gm_75 := stage_mk sumsT_ok (by kernel_rfl) (by kernel_rfl)
set_option maxRecDepth 1000000 in
theorem gm_76_ok : StageOk Tryz.prog plans 58 gm_76 := stage_mk sumsT_ok (by kernel_rfl) (by kernel_rfl)
set_option maxRecDepth 1000000 in
theorem gm_77_ok : StageOk Tryz.prog plans 55 gm_77 := stage_mk sumsT_ok (by kernel_rfl) (by kernel_rfl)
set_option maxRecDepth 1000000 in
theorem gm_78_ok : StageOk Tryz.prog plans 58 gm_78 := stage_mk sumsT_ok (by kernel_rfl) (by kernel_rfl)
set_option maxRecDepth 1000000 in
theorem gm_79_ok : StageOk Tryz.prog plans 60 gm_79 := stage_mk sumsT_ok (by kernel_rfl) (by kernel_rfl)

end Go.Proofs.YtfomfboennjfoaaGreat.worldMany

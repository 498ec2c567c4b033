/-
  Stages of HubFloods: that they run so.
-/
import Derived.Test.YtlmpmmcefdhgmaaGreatSgF
import Derived.Test.YtlmpmmcefdhgmaaGreatPlsOk
import Derived.Test.YtlmpmmcefdhgmaaGreatSxu
set_option linter.unusedVariables false
set_option linter.unusedSimpArgs false
namespace Go.Proofs.YtlmpmmcefdhgmaaGreat.hubFloods
open Go

set_option maxRecDepth 1000000 in
theorem g24_run : callG Tryz.prog (ev Tryz.prog plans sumsB (nat_lit 100000) 100000) 9 g24.args g24.s0 (chkK g24.h g24.ls) = g24.r := by kernel_rfl
set_option maxRecDepth 1000000 in
theorem g24_b : stgB g24 = true := by kernel_rfl
theorem g24_ok : StageOk Tryz.prog plans 9 g24 := ⟨g24_b, sumsB, _, _, sumsB_ok, g24_run⟩
set_option maxRecDepth 1000000 in
theorem g25_run : callG Tryz.prog (ev Tryz.prog plans sumsB (nat_lit 100000) 100000) 9 g25.args g25.s0 (chkK g25.h g25.ls) = g25.r := by kernel_rfl
set_option maxRecDepth 1000000 in
theorem g25_b : stgB g25 = true := by kernel_rfl
theorem g25_ok : StageOk Tryz.prog plans 9 g25 := ⟨g25_b, sumsB, _, _, sumsB_ok, g25_run⟩
set_option maxRecDepth 1000000 in
theorem g26_run : callG Tryz.prog (ev Tryz.prog plans sumsB (nat_lit 100000) 100000) 9 g26.args g26.s0 (chkK g26.h g26.ls) = g26.r := by kernel_rfl
set_option maxRecDepth 1000000 in
theorem g26_b : stgB g26 = true := by kernel_rfl
theorem g26_ok : StageOk Tryz.prog plans 9 g26 := ⟨g26_b, sumsB, _, _, sumsB_ok, g26_run⟩
set_option maxRecDepth 1000000 in
theorem g27_run : callG Tryz.prog (ev Tryz.prog plans sumsB (nat_lit 100000) 100000) 9 g27.args g27.s0 (chkK g27.h g27.ls) = g27.r := by kernel_rfl
set_option maxRecDepth 1000000 in
theorem g27_b : stgB g27 = true := by kernel_rfl
theorem g27_ok : StageOk Tryz.prog plans 9 g27 := ⟨g27_b, sumsB, _, _, sumsB_ok, g27_run⟩

end Go.Proofs.YtlmpmmcefdhgmaaGreat.hubFloods

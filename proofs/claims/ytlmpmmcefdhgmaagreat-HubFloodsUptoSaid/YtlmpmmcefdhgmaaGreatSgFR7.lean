/-
  Stages of HubFloods: that they run so.
-/
import Derived.Test.YtlmpmmcefdhgmaaGreatSgF
import Derived.Test.YtlmpmmcefdhgmaaGreatPlsOk
import Derived.Test.YtlmpmmcefdhgmaaGreatSxu
set_option linter.unusedVariables false
set_option linter.unusedSimpArgs false
namespace Go.Proofs.YtlmpmmcefdhgmaaGreat.hubFloods
open Go

set_option maxRecDepth 1000000 in
theorem g28_run : callG Tryz.prog (ev Tryz.prog plans sumsB (nat_lit 100000) 100000) 9 g28.args g28.s0 (chkK g28.h g28.ls) = g28.r := by kernel_rfl
set_option maxRecDepth 1000000 in
theorem g28_b : stgB g28 = true := by kernel_rfl
theorem g28_ok : StageOk Tryz.prog plans 9 g28 := ⟨g28_b, sumsB, _, _, sumsB_ok, g28_run⟩
set_option maxRecDepth 1000000 in
theorem g29_run : callG Tryz.prog (ev Tryz.prog plans sumsB (nat_lit 100000) 100000) 9 g29.args g29.s0 (chkK g29.h g29.ls) = g29.r := by kernel_rfl
set_option maxRecDepth 1000000 in
theorem g29_b : stgB g29 = true := by kernel_rfl
theorem g29_ok : StageOk Tryz.prog plans 9 g29 := ⟨g29_b, sumsB, _, _, sumsB_ok, g29_run⟩
set_option maxRecDepth 1000000 in
theorem g30_run : callG Tryz.prog (ev Tryz.prog plans sumsB (nat_lit 100000) 100000) 9 g30.args g30.s0 (chkK g30.h g30.ls) = g30.r := by kernel_rfl
set_option maxRecDepth 1000000 in
theorem g30_b : stgB g30 = true := by kernel_rfl
theorem g30_ok : StageOk Tryz.prog plans 9 g30 := ⟨g30_b, sumsB, _, _, sumsB_ok, g30_run⟩
set_option maxRecDepth 1000000 in
theorem g31_run : callG Tryz.prog (ev Tryz.prog plans sumsB (nat_lit 100000) 100000) 9 g31.args g31.s0 (chkK g31.h g31.ls) = g31.r := by kernel_rfl
set_option maxRecDepth 1000000 in
theorem g31_b : stgB g31 = true := by kernel_rfl
theorem g31_ok : StageOk Tryz.prog plans 9 g31 := ⟨g31_b, sumsB, _, _, sumsB_ok, g31_run⟩

end Go.Proofs.YtlmpmmcefdhgmaaGreat.hubFloods

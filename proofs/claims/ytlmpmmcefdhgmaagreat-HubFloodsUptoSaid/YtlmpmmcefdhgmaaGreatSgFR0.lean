/-
  Stages of HubFloods: that they run so.
-/
import Derived.Test.YtlmpmmcefdhgmaaGreatSgF
import Derived.Test.YtlmpmmcefdhgmaaGreatPlsOk
import Derived.Test.YtlmpmmcefdhgmaaGreatSxu
set_option linter.unusedVariables false
set_option linter.unusedSimpArgs false
namespace Go.Proofs.YtlmpmmcefdhgmaaGreat.hubFloods
open Go

set_option maxRecDepth 1000000 in
theorem g0_run : callG Tryz.prog (ev Tryz.prog plans sumsB (nat_lit 100000) 100000) 9 g0.args g0.s0 (chkK g0.h g0.ls) = g0.r := by kernel_rfl
set_option maxRecDepth 1000000 in
theorem g0_b : stgB g0 = true := by kernel_rfl
theorem g0_ok : StageOk Tryz.prog plans 9 g0 := ⟨g0_b, sumsB, _, _, sumsB_ok, g0_run⟩
set_option maxRecDepth 1000000 in
theorem g1_run : callG Tryz.prog (ev Tryz.prog plans sumsB (nat_lit 100000) 100000) 9 g1.args g1.s0 (chkK g1.h g1.ls) = g1.r := by kernel_rfl
set_option maxRecDepth 1000000 in
theorem g1_b : stgB g1 = true := by kernel_rfl
theorem g1_ok : StageOk Tryz.prog plans 9 g1 := ⟨g1_b, sumsB, _, _, sumsB_ok, g1_run⟩
set_option maxRecDepth 1000000 in
theorem g2_run : callG Tryz.prog (ev Tryz.prog plans sumsB (nat_lit 100000) 100000) 9 g2.args g2.s0 (chkK g2.h g2.ls) = g2.r := by kernel_rfl
set_option maxRecDepth 1000000 in
theorem g2_b : stgB g2 = true := by kernel_rfl
theorem g2_ok : StageOk Tryz.prog plans 9 g2 := ⟨g2_b, sumsB, _, _, sumsB_ok, g2_run⟩
set_option maxRecDepth 1000000 in
theorem g3_run : callG Tryz.prog (ev Tryz.prog plans sumsB (nat_lit 100000) 100000) 9 g3.args g3.s0 (chkK g3.h g3.ls) = g3.r := by kernel_rfl
set_option maxRecDepth 1000000 in
theorem g3_b : stgB g3 = true := by kernel_rfl
theorem g3_ok : StageOk Tryz.prog plans 9 g3 := ⟨g3_b, sumsB, _, _, sumsB_ok, g3_run⟩

end Go.Proofs.YtlmpmmcefdhgmaaGreat.hubFloods

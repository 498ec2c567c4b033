/-
  Stages of HubFloods: that they run so.
-/
import Derived.Test.YtlmpmmcefdhgmaaGreatSgF
import Derived.Test.YtlmpmmcefdhgmaaGreatPlsOk
import Derived.Test.YtlmpmmcefdhgmaaGreatSxu
set_option linter.unusedVariables false
set_option linter.unusedSimpArgs false
namespace Go.Proofs.YtlmpmmcefdhgmaaGreat.hubFloods
open Go

set_option maxRecDepth 1000000 in
theorem g12_run : callG Tryz.prog (ev Tryz.prog plans sumsB (nat_lit 100000) 100000) 9 g12.args g12.s0 (chkK g12.h g12.ls) = g12.r := by kernel_rfl
set_option maxRecDepth 1000000 in
theorem g12_b : stgB g12 = true := by kernel_rfl
theorem g12_ok : StageOk Tryz.prog plans 9 g12 := ⟨g12_b, sumsB, _, _, sumsB_ok, g12_run⟩
set_option maxRecDepth 1000000 in
theorem g13_run : callG Tryz.prog (ev Tryz.prog plans sumsB (nat_lit 100000) 100000) 9 g13.args g13.s0 (chkK g13.h g13.ls) = g13.r := by kernel_rfl
set_option maxRecDepth 1000000 in
theorem g13_b : stgB g13 = true := by kernel_rfl
theorem g13_ok : StageOk Tryz.prog plans 9 g13 := ⟨g13_b, sumsB, _, _, sumsB_ok, g13_run⟩
set_option maxRecDepth 1000000 in
theorem g14_run : callG Tryz.prog (ev Tryz.prog plans sumsB (nat_lit 100000) 100000) 9 g14.args g14.s0 (chkK g14.h g14.ls) = g14.r := by kernel_rfl
set_option maxRecDepth 1000000 in
theorem g14_b : stgB g14 = true := by kernel_rfl
theorem g14_ok : StageOk Tryz.prog plans 9 g14 := ⟨g14_b, sumsB, _, _, sumsB_ok, g14_run⟩
set_option maxRecDepth 1000000 in
theorem g15_run : callG Tryz.prog (ev Tryz.prog plans sumsB (nat_lit 100000) 100000) 9 g15.args g15.s0 (chkK g15.h g15.ls) = g15.r := by kernel_rfl
set_option maxRecDepth 1000000 in
theorem g15_b : stgB g15 = true := by kernel_rfl
theorem g15_ok : StageOk Tryz.prog plans 9 g15 := ⟨g15_b, sumsB, _, _, sumsB_ok, g15_run⟩

end Go.Proofs.YtlmpmmcefdhgmaaGreat.hubFloods

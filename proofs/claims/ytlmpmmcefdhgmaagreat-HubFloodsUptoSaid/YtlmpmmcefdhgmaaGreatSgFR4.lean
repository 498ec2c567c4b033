/-
  Stages of HubFloods: that they run so.
-/
import Derived.Test.YtlmpmmcefdhgmaaGreatSgF
import Derived.Test.YtlmpmmcefdhgmaaGreatPlsOk
import Derived.Test.YtlmpmmcefdhgmaaGreatSxu
set_option linter.unusedVariables false
set_option linter.unusedSimpArgs false
namespace Go.Proofs.YtlmpmmcefdhgmaaGreat.hubFloods
open Go

set_option maxRecDepth 1000000 in
theorem g16_run : callG Tryz.prog (ev Tryz.prog plans sumsB (nat_lit 100000) 100000) 9 g16.args g16.s0 (chkK g16.h g16.ls) = g16.r := by kernel_rfl
set_option maxRecDepth 1000000 in
theorem g16_b : stgB g16 = true := by kernel_rfl
theorem g16_ok : StageOk Tryz.prog plans 9 g16 := ⟨g16_b, sumsB, _, _, sumsB_ok, g16_run⟩
set_option maxRecDepth 1000000 in
theorem g17_run : callG Tryz.prog (ev Tryz.prog plans sumsB (nat_lit 100000) 100000) 9 g17.args g17.s0 (chkK g17.h g17.ls) = g17.r := by kernel_rfl
set_option maxRecDepth 1000000 in
theorem g17_b : stgB g17 = true := by kernel_rfl
theorem g17_ok : StageOk Tryz.prog plans 9 g17 := ⟨g17_b, sumsB, _, _, sumsB_ok, g17_run⟩
set_option maxRecDepth 1000000 in
theorem g18_run : callG Tryz.prog (ev Tryz.prog plans sumsB (nat_lit 100000) 100000) 9 g18.args g18.s0 (chkK g18.h g18.ls) = g18.r := by kernel_rfl
set_option maxRecDepth 1000000 in
theorem g18_b : stgB g18 = true := by kernel_rfl
theorem g18_ok : StageOk Tryz.prog plans 9 g18 := ⟨g18_b, sumsB, _, _, sumsB_ok, g18_run⟩
set_option maxRecDepth 1000000 in
theorem g19_run : callG Tryz.prog (ev Tryz.prog plans sumsB (nat_lit 100000) 100000) 9 g19.args g19.s0 (chkK g19.h g19.ls) = g19.r := by kernel_rfl
set_option maxRecDepth 1000000 in
theorem g19_b : stgB g19 = true := by kernel_rfl
theorem g19_ok : StageOk Tryz.prog plans 9 g19 := ⟨g19_b, sumsB, _, _, sumsB_ok, g19_run⟩

end Go.Proofs.YtlmpmmcefdhgmaaGreat.hubFloods

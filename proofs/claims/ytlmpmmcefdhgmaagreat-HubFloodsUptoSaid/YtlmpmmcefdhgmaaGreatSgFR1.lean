/-
  Stages of HubFloods: that they run so.
-/
import Derived.Test.YtlmpmmcefdhgmaaGreatSgF
import Derived.Test.YtlmpmmcefdhgmaaGreatPlsOk
import Derived.Test.YtlmpmmcefdhgmaaGreatSxu
set_option linter.unusedVariables false
set_option linter.unusedSimpArgs false
namespace Go.Proofs.YtlmpmmcefdhgmaaGreat.hubFloods
open Go

set_option maxRecDepth 1000000 in
theorem g4_run : callG Tryz.prog (ev Tryz.prog plans sumsB (nat_lit 100000) 100000) 9 g4.args g4.s0 (chkK g4.h g4.ls) = g4.r := by kernel_rfl
set_option maxRecDepth 1000000 in
theorem g4_b : stgB g4 = true := by kernel_rfl
theorem g4_ok : StageOk Tryz.prog plans 9 g4 := ⟨g4_b, sumsB, _, _, sumsB_ok, g4_run⟩
set_option maxRecDepth 1000000 in
theorem g5_run : callG Tryz.prog (ev Tryz.prog plans sumsB (nat_lit 100000) 100000) 9 g5.args g5.s0 (chkK g5.h g5.ls) = g5.r := by kernel_rfl
set_option maxRecDepth 1000000 in
theorem g5_b : stgB g5 = true := by kernel_rfl
theorem g5_ok : StageOk Tryz.prog plans 9 g5 := ⟨g5_b, sumsB, _, _, sumsB_ok, g5_run⟩
set_option maxRecDepth 1000000 in
theorem g6_run : callG Tryz.prog (ev Tryz.prog plans sumsB (nat_lit 100000) 100000) 9 g6.args g6.s0 (chkK g6.h g6.ls) = g6.r := by kernel_rfl
set_option maxRecDepth 1000000 in
theorem g6_b : stgB g6 = true := by kernel_rfl
theorem g6_ok : StageOk Tryz.prog plans 9 g6 := ⟨g6_b, sumsB, _, _, sumsB_ok, g6_run⟩
set_option maxRecDepth 1000000 in
theorem g7_run : callG Tryz.prog (ev Tryz.prog plans sumsB (nat_lit 100000) 100000) 9 g7.args g7.s0 (chkK g7.h g7.ls) = g7.r := by kernel_rfl
set_option maxRecDepth 1000000 in
theorem g7_b : stgB g7 = true := by kernel_rfl
theorem g7_ok : StageOk Tryz.prog plans 9 g7 := ⟨g7_b, sumsB, _, _, sumsB_ok, g7_run⟩

end Go.Proofs.YtlmpmmcefdhgmaaGreat.hubFloods

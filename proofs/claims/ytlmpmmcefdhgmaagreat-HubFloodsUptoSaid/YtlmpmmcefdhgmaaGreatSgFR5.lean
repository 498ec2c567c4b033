/-
  Stages of HubFloods: that they run so.
-/
import Derived.Test.YtlmpmmcefdhgmaaGreatSgF
import Derived.Test.YtlmpmmcefdhgmaaGreatPlsOk
import Derived.Test.YtlmpmmcefdhgmaaGreatSxu
set_option linter.unusedVariables false
set_option linter.unusedSimpArgs false
namespace Go.Proofs.YtlmpmmcefdhgmaaGreat.hubFloods
open Go

set_option maxRecDepth 1000000 in
theorem g20_run : callG Tryz.prog (ev Tryz.prog plans sumsB (nat_lit 100000) 100000) 9 g20.args g20.s0 (chkK g20.h g20.ls) = g20.r := by kernel_rfl
set_option maxRecDepth 1000000 in
theorem g20_b : stgB g20 = true := by kernel_rfl
theorem g20_ok : StageOk Tryz.prog plans 9 g20 := ⟨g20_b, sumsB, _, _, sumsB_ok, g20_run⟩
set_option maxRecDepth 1000000 in
theorem g21_run : callG Tryz.prog (ev Tryz.prog plans sumsB (nat_lit 100000) 100000) 9 g21.args g21.s0 (chkK g21.h g21.ls) = g21.r := by kernel_rfl
set_option maxRecDepth 1000000 in
theorem g21_b : stgB g21 = true := by kernel_rfl
theorem g21_ok : StageOk Tryz.prog plans 9 g21 := ⟨g21_b, sumsB, _, _, sumsB_ok, g21_run⟩
set_option maxRecDepth 1000000 in
theorem g22_run : callG Tryz.prog (ev Tryz.prog plans sumsB (nat_lit 100000) 100000) 9 g22.args g22.s0 (chkK g22.h g22.ls) = g22.r := by kernel_rfl
set_option maxRecDepth 1000000 in
theorem g22_b : stgB g22 = true := by kernel_rfl
theorem g22_ok : StageOk Tryz.prog plans 9 g22 := ⟨g22_b, sumsB, _, _, sumsB_ok, g22_run⟩
set_option maxRecDepth 1000000 in
theorem g23_run : callG Tryz.prog (ev Tryz.prog plans sumsB (nat_lit 100000) 100000) 9 g23.args g23.s0 (chkK g23.h g23.ls) = g23.r := by kernel_rfl
set_option maxRecDepth 1000000 in
theorem g23_b : stgB g23 = true := by kernel_rfl
theorem g23_ok : StageOk Tryz.prog plans 9 g23 := ⟨g23_b, sumsB, _, _, sumsB_ok, g23_run⟩

end Go.Proofs.YtlmpmmcefdhgmaaGreat.hubFloods

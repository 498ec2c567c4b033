/-
  Stages of HubFloods: that they run so.
-/
import Derived.Test.YtlmpmmcefdhgmaaGreatSgF
import Derived.Test.YtlmpmmcefdhgmaaGreatPlsOk
import Derived.Test.YtlmpmmcefdhgmaaGreatSxu
set_option linter.unusedVariables false
set_option linter.unusedSimpArgs false
namespace Go.Proofs.YtlmpmmcefdhgmaaGreat.hubFloods
open Go

set_option maxRecDepth 1000000 in
theorem g8_run : callG Tryz.prog (ev Tryz.prog plans sumsB (nat_lit 100000) 100000) 9 g8.args g8.s0 (chkK g8.h g8.ls) = g8.r := by kernel_rfl
set_option maxRecDepth 1000000 in
theorem g8_b : stgB g8 = true := by kernel_rfl
theorem g8_ok : StageOk Tryz.prog plans 9 g8 := ⟨g8_b, sumsB, _, _, sumsB_ok, g8_run⟩
set_option maxRecDepth 1000000 in
theorem g9_run : callG Tryz.prog (ev Tryz.prog plans sumsB (nat_lit 100000) 100000) 9 g9.args g9.s0 (chkK g9.h g9.ls) = g9.r := by kernel_rfl
set_option maxRecDepth 1000000 in
theorem g9_b : stgB g9 = true := by kernel_rfl
theorem g9_ok : StageOk Tryz.prog plans 9 g9 := ⟨g9_b, sumsB, _, _, sumsB_ok, g9_run⟩
set_option maxRecDepth 1000000 in
theorem g10_run : callG Tryz.prog (ev Tryz.prog plans sumsB (nat_lit 100000) 100000) 9 g10.args g10.s0 (chkK g10.h g10.ls) = g10.r := by kernel_rfl
set_option maxRecDepth 1000000 in
theorem g10_b : stgB g10 = true := by kernel_rfl
theorem g10_ok : StageOk Tryz.prog plans 9 g10 := ⟨g10_b, sumsB, _, _, sumsB_ok, g10_run⟩
set_option maxRecDepth 1000000 in
theorem g11_run : callG Tryz.prog (ev Tryz.prog plans sumsB (nat_lit 100000) 100000) 9 g11.args g11.s0 (chkK g11.h g11.ls) = g11.r := by kernel_rfl
set_option maxRecDepth 1000000 in
theorem g11_b : stgB g11 = true := by kernel_rfl
theorem g11_ok : StageOk Tryz.prog plans 9 g11 := ⟨g11_b, sumsB, _, _, sumsB_ok, g11_run⟩

end Go.Proofs.YtlmpmmcefdhgmaaGreat.hubFloods

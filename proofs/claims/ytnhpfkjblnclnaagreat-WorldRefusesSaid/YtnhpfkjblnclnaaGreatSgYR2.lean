/-
  Stages of WorldRefuses, idle ticks: that they run so.
-/
import Derived.Test.YtnhpfkjblnclnaaGreatSgY
import Derived.Test.YtnhpfkjblnclnaaGreatPlsOk
import Derived.Test.YtnhpfkjblnclnaaGreatSsq
set_option linter.unusedVariables false
set_option linter.unusedSimpArgs false
namespace Go.Proofs.YtnhpfkjblnclnaaGreat.worldRefuses.t
open Go

set_option maxRecDepth 1000000 in
theorem y30_run : callG Tryz.prog (ev Tryz.prog plans sumsQ (nat_lit 100000) 100000) 70 y30.args y30.s0 (chkK y30.h y30.l0 y30.ls) = y30.r := by kernel_rfl
set_option maxRecDepth 1000000 in
theorem y30_b : stgB y30 = true := by kernel_rfl
theorem y30_ok : StageOk Tryz.prog plans 70 y30 := ⟨y30_b, sumsQ, _, _, sumsQ_ok, y30_run⟩

end Go.Proofs.YtnhpfkjblnclnaaGreat.worldRefuses.t

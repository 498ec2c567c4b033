/-
  Stages of WorldWakes: that they run so.
-/
import Derived.Test.YticednpolhnneaaGreatSgJ
import Derived.Test.YticednpolhnneaaGreatPlWWorldWakes
import Derived.Test.YticednpolhnneaaGreatSsq
set_option linter.unusedVariables false
set_option linter.unusedSimpArgs false
namespace Go.Proofs.YticednpolhnneaaGreat.worldWakes
open Go

set_option maxRecDepth 1000000 in
theorem g0_run : callG Tryz.prog (ev Tryz.prog plansW sumsQ (nat_lit 100000) 100000) 36 g0.args g0.s0 (chkK g0.h g0.ls) = g0.r := by kernel_rfl
set_option maxRecDepth 1000000 in
theorem g0_b : stgB g0 = true := by kernel_rfl
theorem g0_ok : StageOk Tryz.prog plansW 36 g0 := ⟨g0_b, sumsQ, _, _, sumsQ_ok, g0_run⟩

end Go.Proofs.YticednpolhnneaaGreat.worldWakes

/-
  Stages of WorldMany: joined: that they run so.
-/
import Derived.Test.YtfomfboennjfoaaGreatSgN
import Derived.Test.YtfomfboennjfoaaGreatPlJm
import Derived.Test.YtfomfboennjfoaaGreatStk
set_option linter.unusedVariables false
set_option linter.unusedSimpArgs false
namespace Go.Proofs.YtfomfboennjfoaaGreat.worldMany.j
open Go

set_option maxRecDepth 1000000 in
theorem g0_run : callG Tryz.prog (ev Tryz.prog plansJm sumsT (nat_lit 100000) 100000) 25 g0.args g0.s0 (chkK g0.h g0.l0 g0.ls) = g0.r := by kernel_rfl
set_option maxRecDepth 1000000 in
theorem g0_b : stgB g0 = true := by kernel_rfl
theorem g0_ok : StageOk Tryz.prog plansJm 25 g0 := ⟨g0_b, sumsT, _, _, sumsT_ok, g0_run⟩

end Go.Proofs.YtfomfboennjfoaaGreat.worldMany.j

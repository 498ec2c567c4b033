/-
  WorldRefuses: the closed facts of its row.
-/
import Derived.Test.YtnhpfkjblnclnaaGreatRows
import Derived.Test.YtnhpfkjblnclnaaGreatJl
set_option linter.unusedVariables false
set_option linter.unusedSimpArgs false
namespace Go.Proofs.YtnhpfkjblnclnaaGreat.worldRefuses
open Go

set_option maxRecDepth 100000 in
theorem j_inPlace : (Rows.worldRefusesRow.inPlace == Tryz.prog.inPlace 6) = true := by kernel_rfl
set_option maxRecDepth 100000 in
theorem j_unfollowed : (Rows.worldRefusesRow.unfollowed == Tryz.prog.unfollowed 6) = true := by kernel_rfl
set_option maxRecDepth 100000 in
theorem j_recurses : (Rows.worldRefusesRow.recurses == Tryz.prog.recurses 6) = true := by kernel_rfl
set_option maxRecDepth 100000 in
theorem j_named : (Rows.worldRefusesRow.named == Tryz.prog.varsNamed 6) = true := by kernel_rfl
set_option maxRecDepth 100000 in
theorem j_func : Tryz.prog.funcNamed Rows.worldRefusesRow.func = some 6 := by kernel_rfl
set_option maxRecDepth 100000 in
theorem joined : joinedFacts Tryz.prog 6 Tryz.f6 Rows.worldRefusesSpec Rows.worldRefusesRow = true := by
  unfold joinedFacts
  rw [laid_out, maps_rowed, j_inPlace, j_unfollowed, j_recurses, j_named]
  kernel_rfl

end Go.Proofs.YtnhpfkjblnclnaaGreat.worldRefuses

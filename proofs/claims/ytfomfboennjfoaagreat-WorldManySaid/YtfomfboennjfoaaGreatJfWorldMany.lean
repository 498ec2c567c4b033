/-
  WorldMany: the closed facts of its row.
-/
import Derived.Test.YtfomfboennjfoaaGreatRows
import Derived.Test.YtfomfboennjfoaaGreatJl
set_option linter.unusedVariables false
set_option linter.unusedSimpArgs false
namespace Go.Proofs.YtfomfboennjfoaaGreat.worldMany
open Go

set_option maxRecDepth 100000 in
theorem j_inPlace : (Rows.worldManyRow.inPlace == Tryz.prog.inPlace 7) = true := by kernel_rfl
set_option maxRecDepth 100000 in
theorem j_unfollowed : (Rows.worldManyRow.unfollowed == Tryz.prog.unfollowed 7) = true := by kernel_rfl
set_option maxRecDepth 100000 in
theorem j_recurses : (Rows.worldManyRow.recurses == Tryz.prog.recurses 7) = true := by kernel_rfl
set_option maxRecDepth 100000 in
theorem j_named : (Rows.worldManyRow.named == Tryz.prog.varsNamed 7) = true := by kernel_rfl
set_option maxRecDepth 100000 in
theorem j_func : Tryz.prog.funcNamed Rows.worldManyRow.func = some 7 := by kernel_rfl
set_option maxRecDepth 100000 in
theorem joined : joinedFacts Tryz.prog 7 Tryz.f7 Rows.worldManySpec Rows.worldManyRow = true := by
  unfold joinedFacts
  rw [laid_out, maps_rowed, j_inPlace, j_unfollowed, j_recurses, j_named]
  kernel_rfl

end Go.Proofs.YtfomfboennjfoaaGreat.worldMany

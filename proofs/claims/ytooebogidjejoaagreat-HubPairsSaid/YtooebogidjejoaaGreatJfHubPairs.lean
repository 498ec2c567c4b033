/-
  HubPairs: the closed facts of its row.
-/
import Derived.Test.YtooebogidjejoaaGreatRows
import Derived.Test.YtooebogidjejoaaGreatJl
set_option linter.unusedVariables false
set_option linter.unusedSimpArgs false
namespace Go.Proofs.YtooebogidjejoaaGreat.hubPairs
open Go

set_option maxRecDepth 100000 in
theorem j_inPlace : (Rows.hubPairsRow.inPlace == Tryz.prog.inPlace 3) = true := by kernel_rfl
set_option maxRecDepth 100000 in
theorem j_unfollowed : (Rows.hubPairsRow.unfollowed == Tryz.prog.unfollowed 3) = true := by kernel_rfl
set_option maxRecDepth 100000 in
theorem j_recurses : (Rows.hubPairsRow.recurses == Tryz.prog.recurses 3) = true := by kernel_rfl
set_option maxRecDepth 100000 in
theorem j_named : (Rows.hubPairsRow.named == Tryz.prog.varsNamed 3) = true := by kernel_rfl
set_option maxRecDepth 100000 in
theorem j_func : Tryz.prog.funcNamed Rows.hubPairsRow.func = some 3 := by kernel_rfl
set_option maxRecDepth 100000 in
theorem joined : joinedFacts Tryz.prog 3 Tryz.f3 Rows.hubPairsSpec Rows.hubPairsRow = true := by
  unfold joinedFacts
  rw [laid_out, maps_rowed, j_inPlace, j_unfollowed, j_recurses, j_named]
  kernel_rfl

end Go.Proofs.YtooebogidjejoaaGreat.hubPairs

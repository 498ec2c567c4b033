/-
  HubStrays: the closed facts of its row.
-/
import Derived.Test.YtlmpmmcefdhgmaaGreatRows
import Derived.Test.YtlmpmmcefdhgmaaGreatJl
set_option linter.unusedVariables false
set_option linter.unusedSimpArgs false
namespace Go.Proofs.YtlmpmmcefdhgmaaGreat.hubStrays
open Go

set_option maxRecDepth 100000 in
theorem j_inPlace : (Rows.hubStraysRow.inPlace == Tryz.prog.inPlace 4) = true := by kernel_rfl
set_option maxRecDepth 100000 in
theorem j_unfollowed : (Rows.hubStraysRow.unfollowed == Tryz.prog.unfollowed 4) = true := by kernel_rfl
set_option maxRecDepth 100000 in
theorem j_recurses : (Rows.hubStraysRow.recurses == Tryz.prog.recurses 4) = true := by kernel_rfl
set_option maxRecDepth 100000 in
theorem j_named : (Rows.hubStraysRow.named == Tryz.prog.varsNamed 4) = true := by kernel_rfl
set_option maxRecDepth 100000 in
theorem j_func : Tryz.prog.funcNamed Rows.hubStraysRow.func = some 4 := by kernel_rfl
set_option maxRecDepth 100000 in
theorem joined : joinedFacts Tryz.prog 4 Tryz.f4 Rows.hubStraysSpec Rows.hubStraysRow = true := by
  unfold joinedFacts
  rw [laid_out, maps_rowed, j_inPlace, j_unfollowed, j_recurses, j_named]
  kernel_rfl

end Go.Proofs.YtlmpmmcefdhgmaaGreat.hubStrays

/-
  HostGroups: the closed facts of its row.
-/
import Derived.Test.YtfiefdkgneilkaaGreatRows
import Derived.Test.YtfiefdkgneilkaaGreatJl
set_option linter.unusedVariables false
set_option linter.unusedSimpArgs false
namespace Go.Proofs.YtfiefdkgneilkaaGreat.hostGroups
open Go

set_option maxRecDepth 100000 in
theorem j_inPlace : (Rows.hostGroupsRow.inPlace == Tryz.prog.inPlace 9) = true := by kernel_rfl
set_option maxRecDepth 100000 in
theorem j_unfollowed : (Rows.hostGroupsRow.unfollowed == Tryz.prog.unfollowed 9) = true := by kernel_rfl
set_option maxRecDepth 100000 in
theorem j_recurses : (Rows.hostGroupsRow.recurses == Tryz.prog.recurses 9) = true := by kernel_rfl
set_option maxRecDepth 100000 in
theorem j_named : (Rows.hostGroupsRow.named == Tryz.prog.varsNamed 9) = true := by kernel_rfl
set_option maxRecDepth 100000 in
theorem j_func : Tryz.prog.funcNamed Rows.hostGroupsRow.func = some 9 := by kernel_rfl
set_option maxRecDepth 100000 in
theorem joined : joinedFacts Tryz.prog 9 Tryz.f9 Rows.hostGroupsSpec Rows.hostGroupsRow = true := by
  unfold joinedFacts
  rw [laid_out, maps_rowed, j_inPlace, j_unfollowed, j_recurses, j_named]
  kernel_rfl

end Go.Proofs.YtfiefdkgneilkaaGreat.hostGroups

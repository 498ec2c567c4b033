/-
  WorldOfNothing: the closed facts of its row.
-/
import Derived.Test.YtfiefdkgneilkaaGreatRows
import Derived.Test.YtfiefdkgneilkaaGreatJl
set_option linter.unusedVariables false
set_option linter.unusedSimpArgs false
namespace Go.Proofs.YtfiefdkgneilkaaGreat.worldOfNothing
open Go

set_option maxRecDepth 100000 in
theorem j_inPlace : (Rows.worldOfNothingRow.inPlace == Tryz.prog.inPlace 19) = true := by kernel_rfl
set_option maxRecDepth 100000 in
theorem j_unfollowed : (Rows.worldOfNothingRow.unfollowed == Tryz.prog.unfollowed 19) = true := by kernel_rfl
set_option maxRecDepth 100000 in
theorem j_recurses : (Rows.worldOfNothingRow.recurses == Tryz.prog.recurses 19) = true := by kernel_rfl
set_option maxRecDepth 100000 in
theorem j_named : (Rows.worldOfNothingRow.named == Tryz.prog.varsNamed 19) = true := by kernel_rfl
set_option maxRecDepth 100000 in
theorem j_func : Tryz.prog.funcNamed Rows.worldOfNothingRow.func = some 19 := by kernel_rfl
set_option maxRecDepth 100000 in
theorem joined : joinedFacts Tryz.prog 19 Tryz.f19 Rows.worldOfNothingSpec Rows.worldOfNothingRow = true := by
  unfold joinedFacts
  rw [laid_out, maps_rowed, j_inPlace, j_unfollowed, j_recurses, j_named]
  kernel_rfl

end Go.Proofs.YtfiefdkgneilkaaGreat.worldOfNothing

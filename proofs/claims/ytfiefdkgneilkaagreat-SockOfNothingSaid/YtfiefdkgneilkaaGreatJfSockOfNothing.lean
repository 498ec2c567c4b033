/-
  SockOfNothing: the closed facts of its row.
-/
import Derived.Test.YtfiefdkgneilkaaGreatRows
import Derived.Test.YtfiefdkgneilkaaGreatJl
set_option linter.unusedVariables false
set_option linter.unusedSimpArgs false
namespace Go.Proofs.YtfiefdkgneilkaaGreat.sockOfNothing
open Go

set_option maxRecDepth 100000 in
theorem j_inPlace : (Rows.sockOfNothingRow.inPlace == Tryz.prog.inPlace 15) = true := by kernel_rfl
set_option maxRecDepth 100000 in
theorem j_unfollowed : (Rows.sockOfNothingRow.unfollowed == Tryz.prog.unfollowed 15) = true := by kernel_rfl
set_option maxRecDepth 100000 in
theorem j_recurses : (Rows.sockOfNothingRow.recurses == Tryz.prog.recurses 15) = true := by kernel_rfl
set_option maxRecDepth 100000 in
theorem j_named : (Rows.sockOfNothingRow.named == Tryz.prog.varsNamed 15) = true := by kernel_rfl
set_option maxRecDepth 100000 in
theorem j_func : Tryz.prog.funcNamed Rows.sockOfNothingRow.func = some 15 := by kernel_rfl
set_option maxRecDepth 100000 in
theorem joined : joinedFacts Tryz.prog 15 Tryz.f15 Rows.sockOfNothingSpec Rows.sockOfNothingRow = true := by
  unfold joinedFacts
  rw [laid_out, maps_rowed, j_inPlace, j_unfollowed, j_recurses, j_named]
  kernel_rfl

end Go.Proofs.YtfiefdkgneilkaaGreat.sockOfNothing

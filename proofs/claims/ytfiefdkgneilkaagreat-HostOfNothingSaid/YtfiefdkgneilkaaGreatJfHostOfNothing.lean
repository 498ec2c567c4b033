/-
  HostOfNothing: the closed facts of its row.
-/
import Derived.Test.YtfiefdkgneilkaaGreatRows
import Derived.Test.YtfiefdkgneilkaaGreatJl
set_option linter.unusedVariables false
set_option linter.unusedSimpArgs false
namespace Go.Proofs.YtfiefdkgneilkaaGreat.hostOfNothing
open Go

set_option maxRecDepth 100000 in
theorem j_inPlace : (Rows.hostOfNothingRow.inPlace == Tryz.prog.inPlace 12) = true := by kernel_rfl
set_option maxRecDepth 100000 in
theorem j_unfollowed : (Rows.hostOfNothingRow.unfollowed == Tryz.prog.unfollowed 12) = true := by kernel_rfl
set_option maxRecDepth 100000 in
theorem j_recurses : (Rows.hostOfNothingRow.recurses == Tryz.prog.recurses 12) = true := by kernel_rfl
set_option maxRecDepth 100000 in
theorem j_named : (Rows.hostOfNothingRow.named == Tryz.prog.varsNamed 12) = true := by kernel_rfl
set_option maxRecDepth 100000 in
theorem j_func : Tryz.prog.funcNamed Rows.hostOfNothingRow.func = some 12 := by kernel_rfl
set_option maxRecDepth 100000 in
theorem joined : joinedFacts Tryz.prog 12 Tryz.f12 Rows.hostOfNothingSpec Rows.hostOfNothingRow = true := by
  unfold joinedFacts
  rw [laid_out, maps_rowed, j_inPlace, j_unfollowed, j_recurses, j_named]
  kernel_rfl

end Go.Proofs.YtfiefdkgneilkaaGreat.hostOfNothing

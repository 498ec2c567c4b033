/-
  HostLost: the closed facts of its narrowed row.
-/
import Derived.Test.YtfiefdkgneilkaaGreatRows
import Derived.Test.YtfiefdkgneilkaaGreatJl
set_option linter.unusedVariables false
set_option linter.unusedSimpArgs false
namespace Go.Proofs.YtfiefdkgneilkaaGreat.hostLost
open Go

set_option maxRecDepth 100000 in
theorem j_inPlace : (Rows.hostLostUptoRow.inPlace == Tryz.prog.inPlace 11) = true := by kernel_rfl
set_option maxRecDepth 100000 in
theorem j_unfollowed : (Rows.hostLostUptoRow.unfollowed == Tryz.prog.unfollowed 11) = true := by kernel_rfl
set_option maxRecDepth 100000 in
theorem j_recurses : (Rows.hostLostUptoRow.recurses == Tryz.prog.recurses 11) = true := by kernel_rfl
set_option maxRecDepth 100000 in
theorem j_named : (Rows.hostLostUptoRow.named == Tryz.prog.varsNamed 11) = true := by kernel_rfl
set_option maxRecDepth 100000 in
theorem j_func : Tryz.prog.funcNamed Rows.hostLostUptoRow.func = some 11 := by kernel_rfl
set_option maxRecDepth 100000 in
theorem joined : joinedFacts Tryz.prog 11 Tryz.f11 (Rows.OpenSpec.upto Rows.hostLostSpec).bare Rows.hostLostUptoRow = true := by
  unfold joinedFacts
  rw [laid_out, maps_rowed, j_inPlace, j_unfollowed, j_recurses, j_named]
  kernel_rfl

end Go.Proofs.YtfiefdkgneilkaaGreat.hostLost

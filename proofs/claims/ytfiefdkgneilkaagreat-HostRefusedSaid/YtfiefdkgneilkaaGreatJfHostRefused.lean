/-
  HostRefused: the closed facts of its row.
-/
import Derived.Test.YtfiefdkgneilkaaGreatRows
import Derived.Test.YtfiefdkgneilkaaGreatJl
set_option linter.unusedVariables false
set_option linter.unusedSimpArgs false
namespace Go.Proofs.YtfiefdkgneilkaaGreat.hostRefused
open Go

set_option maxRecDepth 100000 in
theorem j_inPlace : (Rows.hostRefusedRow.inPlace == Tryz.prog.inPlace 10) = true := by kernel_rfl
set_option maxRecDepth 100000 in
theorem j_unfollowed : (Rows.hostRefusedRow.unfollowed == Tryz.prog.unfollowed 10) = true := by kernel_rfl
set_option maxRecDepth 100000 in
theorem j_recurses : (Rows.hostRefusedRow.recurses == Tryz.prog.recurses 10) = true := by kernel_rfl
set_option maxRecDepth 100000 in
theorem j_named : (Rows.hostRefusedRow.named == Tryz.prog.varsNamed 10) = true := by kernel_rfl
set_option maxRecDepth 100000 in
theorem j_func : Tryz.prog.funcNamed Rows.hostRefusedRow.func = some 10 := by kernel_rfl
set_option maxRecDepth 100000 in
theorem joined : joinedFacts Tryz.prog 10 Tryz.f10 Rows.hostRefusedSpec Rows.hostRefusedRow = true := by
  unfold joinedFacts
  rw [laid_out, maps_rowed, j_inPlace, j_unfollowed, j_recurses, j_named]
  kernel_rfl

end Go.Proofs.YtfiefdkgneilkaaGreat.hostRefused

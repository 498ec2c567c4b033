/-
  TopLeases: the closed facts of its row.
-/
import Derived.Test.YtnhpfkjblnclnaaGreatRows
import Derived.Test.YtnhpfkjblnclnaaGreatJl
set_option linter.unusedVariables false
set_option linter.unusedSimpArgs false
namespace Go.Proofs.YtnhpfkjblnclnaaGreat.topLeases
open Go

set_option maxRecDepth 100000 in
theorem j_inPlace : (Rows.topLeasesRow.inPlace == Tryz.prog.inPlace 9) = true := by kernel_rfl
set_option maxRecDepth 100000 in
theorem j_unfollowed : (Rows.topLeasesRow.unfollowed == Tryz.prog.unfollowed 9) = true := by kernel_rfl
set_option maxRecDepth 100000 in
theorem j_recurses : (Rows.topLeasesRow.recurses == Tryz.prog.recurses 9) = true := by kernel_rfl
set_option maxRecDepth 100000 in
theorem j_named : (Rows.topLeasesRow.named == Tryz.prog.varsNamed 9) = true := by kernel_rfl
set_option maxRecDepth 100000 in
theorem j_func : Tryz.prog.funcNamed Rows.topLeasesRow.func = some 9 := by kernel_rfl
set_option maxRecDepth 100000 in
theorem joined : joinedFacts Tryz.prog 9 Tryz.f9 Rows.topLeasesSpec Rows.topLeasesRow = true := by
  unfold joinedFacts
  rw [laid_out, maps_rowed, j_inPlace, j_unfollowed, j_recurses, j_named]
  kernel_rfl

end Go.Proofs.YtnhpfkjblnclnaaGreat.topLeases

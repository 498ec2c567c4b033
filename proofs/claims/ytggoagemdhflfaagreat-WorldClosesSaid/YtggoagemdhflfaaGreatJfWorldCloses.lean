/-
  WorldCloses: the closed facts of its row.
-/
import Derived.Test.YtggoagemdhflfaaGreatRows
import Derived.Test.YtggoagemdhflfaaGreatJl
set_option linter.unusedVariables false
set_option linter.unusedSimpArgs false
namespace Go.Proofs.YtggoagemdhflfaaGreat.worldCloses
open Go

set_option maxRecDepth 100000 in
theorem j_inPlace : (Rows.worldClosesRow.inPlace == Tryz.prog.inPlace 11) = true := by kernel_rfl
set_option maxRecDepth 100000 in
theorem j_unfollowed : (Rows.worldClosesRow.unfollowed == Tryz.prog.unfollowed 11) = true := by kernel_rfl
set_option maxRecDepth 100000 in
theorem j_recurses : (Rows.worldClosesRow.recurses == Tryz.prog.recurses 11) = true := by kernel_rfl
set_option maxRecDepth 100000 in
theorem j_named : (Rows.worldClosesRow.named == Tryz.prog.varsNamed 11) = true := by kernel_rfl
set_option maxRecDepth 100000 in
theorem j_func : Tryz.prog.funcNamed Rows.worldClosesRow.func = some 11 := by kernel_rfl
set_option maxRecDepth 100000 in
theorem joined : joinedFacts Tryz.prog 11 Tryz.f11 Rows.worldClosesSpec Rows.worldClosesRow = true := by
  unfold joinedFacts
  rw [laid_out, maps_rowed, j_inPlace, j_unfollowed, j_recurses, j_named]
  kernel_rfl

end Go.Proofs.YtggoagemdhflfaaGreat.worldCloses

/-
  WorldNames: the closed facts of its row.
-/
import Derived.Test.YtggoagemdhflfaaGreatRows
import Derived.Test.YtggoagemdhflfaaGreatJl
set_option linter.unusedVariables false
set_option linter.unusedSimpArgs false
namespace Go.Proofs.YtggoagemdhflfaaGreat.worldNames
open Go

set_option maxRecDepth 100000 in
theorem j_inPlace : (Rows.worldNamesRow.inPlace == Tryz.prog.inPlace 13) = true := by kernel_rfl
set_option maxRecDepth 100000 in
theorem j_unfollowed : (Rows.worldNamesRow.unfollowed == Tryz.prog.unfollowed 13) = true := by kernel_rfl
set_option maxRecDepth 100000 in
theorem j_recurses : (Rows.worldNamesRow.recurses == Tryz.prog.recurses 13) = true := by kernel_rfl
set_option maxRecDepth 100000 in
theorem j_named : (Rows.worldNamesRow.named == Tryz.prog.varsNamed 13) = true := by kernel_rfl
set_option maxRecDepth 100000 in
theorem j_func : Tryz.prog.funcNamed Rows.worldNamesRow.func = some 13 := by kernel_rfl
set_option maxRecDepth 100000 in
theorem joined : joinedFacts Tryz.prog 13 Tryz.f13 Rows.worldNamesSpec Rows.worldNamesRow = true := by
  unfold joinedFacts
  rw [laid_out, maps_rowed, j_inPlace, j_unfollowed, j_recurses, j_named]
  kernel_rfl

end Go.Proofs.YtggoagemdhflfaaGreat.worldNames

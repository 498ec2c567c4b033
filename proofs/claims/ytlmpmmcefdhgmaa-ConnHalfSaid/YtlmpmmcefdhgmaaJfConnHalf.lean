/-
  ConnHalf: the closed facts of its row.
-/
import Derived.Test.YtlmpmmcefdhgmaaRows
import Derived.Test.YtlmpmmcefdhgmaaJl
set_option linter.unusedVariables false
set_option linter.unusedSimpArgs false
namespace Go.Proofs.Ytlmpmmcefdhgmaa.connHalf
open Go

set_option maxRecDepth 100000 in
theorem j_inPlace : (Rows.connHalfRow.inPlace == Try.prog.inPlace 5) = true := by kernel_rfl
set_option maxRecDepth 100000 in
theorem j_unfollowed : (Rows.connHalfRow.unfollowed == Try.prog.unfollowed 5) = true := by kernel_rfl
set_option maxRecDepth 100000 in
theorem j_recurses : (Rows.connHalfRow.recurses == Try.prog.recurses 5) = true := by kernel_rfl
set_option maxRecDepth 100000 in
theorem j_named : (Rows.connHalfRow.named == Try.prog.varsNamed 5) = true := by kernel_rfl
set_option maxRecDepth 100000 in
theorem j_func : Try.prog.funcNamed Rows.connHalfRow.func = some 5 := by kernel_rfl
set_option maxRecDepth 100000 in
theorem joined : joinedFacts Try.prog 5 Try.f5 Rows.connHalfSpec Rows.connHalfRow = true := by
  unfold joinedFacts
  rw [laid_out, maps_rowed, j_inPlace, j_unfollowed, j_recurses, j_named]
  kernel_rfl

end Go.Proofs.Ytlmpmmcefdhgmaa.connHalf

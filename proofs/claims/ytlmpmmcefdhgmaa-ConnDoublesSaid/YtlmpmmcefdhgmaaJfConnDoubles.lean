/-
  ConnDoubles: the closed facts of its row.
-/
import Derived.Test.YtlmpmmcefdhgmaaRows
import Derived.Test.YtlmpmmcefdhgmaaJl
set_option linter.unusedVariables false
set_option linter.unusedSimpArgs false
namespace Go.Proofs.Ytlmpmmcefdhgmaa.connDoubles
open Go

set_option maxRecDepth 100000 in
theorem j_inPlace : (Rows.connDoublesRow.inPlace == Try.prog.inPlace 3) = true := by kernel_rfl
set_option maxRecDepth 100000 in
theorem j_unfollowed : (Rows.connDoublesRow.unfollowed == Try.prog.unfollowed 3) = true := by kernel_rfl
set_option maxRecDepth 100000 in
theorem j_recurses : (Rows.connDoublesRow.recurses == Try.prog.recurses 3) = true := by kernel_rfl
set_option maxRecDepth 100000 in
theorem j_named : (Rows.connDoublesRow.named == Try.prog.varsNamed 3) = true := by kernel_rfl
set_option maxRecDepth 100000 in
theorem j_func : Try.prog.funcNamed Rows.connDoublesRow.func = some 3 := by kernel_rfl
set_option maxRecDepth 100000 in
theorem joined : joinedFacts Try.prog 3 Try.f3 Rows.connDoublesSpec Rows.connDoublesRow = true := by
  unfold joinedFacts
  rw [laid_out, maps_rowed, j_inPlace, j_unfollowed, j_recurses, j_named]
  kernel_rfl

end Go.Proofs.Ytlmpmmcefdhgmaa.connDoubles

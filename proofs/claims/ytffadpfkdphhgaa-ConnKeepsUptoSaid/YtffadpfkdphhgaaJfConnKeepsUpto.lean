/-
  ConnKeeps: the closed facts of its narrowed row.
-/
import Derived.Test.YtffadpfkdphhgaaRows
import Derived.Test.YtffadpfkdphhgaaJl
set_option linter.unusedVariables false
set_option linter.unusedSimpArgs false
namespace Go.Proofs.Ytffadpfkdphhgaa.connKeeps
open Go

set_option maxRecDepth 100000 in
theorem j_inPlace : (Rows.connKeepsUptoRow.inPlace == Try.prog.inPlace 5) = true := by kernel_rfl
set_option maxRecDepth 100000 in
theorem j_unfollowed : (Rows.connKeepsUptoRow.unfollowed == Try.prog.unfollowed 5) = true := by kernel_rfl
set_option maxRecDepth 100000 in
theorem j_recurses : (Rows.connKeepsUptoRow.recurses == Try.prog.recurses 5) = true := by kernel_rfl
set_option maxRecDepth 100000 in
theorem j_named : (Rows.connKeepsUptoRow.named == Try.prog.varsNamed 5) = true := by kernel_rfl
set_option maxRecDepth 100000 in
theorem j_func : Try.prog.funcNamed Rows.connKeepsUptoRow.func = some 5 := by kernel_rfl
set_option maxRecDepth 100000 in
theorem joined : joinedFacts Try.prog 5 Try.f5 (Rows.OpenSpec.upto Rows.connKeepsSpec).bare Rows.connKeepsUptoRow = true := by
  unfold joinedFacts
  rw [laid_out, maps_rowed, j_inPlace, j_unfollowed, j_recurses, j_named]
  kernel_rfl

end Go.Proofs.Ytffadpfkdphhgaa.connKeeps

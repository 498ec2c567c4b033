/-
  HostEchoes: the closed facts of its row.
-/
import Derived.Test.YticednpolhnneaaGreatRows
import Derived.Test.YticednpolhnneaaGreatJl
set_option linter.unusedVariables false
set_option linter.unusedSimpArgs false
namespace Go.Proofs.YticednpolhnneaaGreat.hostEchoes
open Go

set_option maxRecDepth 100000 in
theorem j_inPlace : (Rows.hostEchoesRow.inPlace == Tryz.prog.inPlace 4) = true := by kernel_rfl
set_option maxRecDepth 100000 in
theorem j_unfollowed : (Rows.hostEchoesRow.unfollowed == Tryz.prog.unfollowed 4) = true := by kernel_rfl
set_option maxRecDepth 100000 in
theorem j_recurses : (Rows.hostEchoesRow.recurses == Tryz.prog.recurses 4) = true := by kernel_rfl
set_option maxRecDepth 100000 in
theorem j_named : (Rows.hostEchoesRow.named == Tryz.prog.varsNamed 4) = true := by kernel_rfl
set_option maxRecDepth 100000 in
theorem j_func : Tryz.prog.funcNamed Rows.hostEchoesRow.func = some 4 := by kernel_rfl
set_option maxRecDepth 100000 in
theorem joined : joinedFacts Tryz.prog 4 Tryz.f4 Rows.hostEchoesSpec Rows.hostEchoesRow = true := by
  unfold joinedFacts
  rw [laid_out, maps_rowed, j_inPlace, j_unfollowed, j_recurses, j_named]
  kernel_rfl

end Go.Proofs.YticednpolhnneaaGreat.hostEchoes

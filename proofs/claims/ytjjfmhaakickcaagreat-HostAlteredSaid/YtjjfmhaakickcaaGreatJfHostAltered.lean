/-
  HostAltered: the closed facts of its row.
-/
import Derived.Test.YtjjfmhaakickcaaGreatRows
import Derived.Test.YtjjfmhaakickcaaGreatJl
set_option linter.unusedVariables false
set_option linter.unusedSimpArgs false
namespace Go.Proofs.YtjjfmhaakickcaaGreat.hostAltered
open Go

set_option maxRecDepth 100000 in
theorem j_inPlace : (Rows.hostAlteredRow.inPlace == Tryz.prog.inPlace 3) = true := by kernel_rfl
set_option maxRecDepth 100000 in
theorem j_unfollowed : (Rows.hostAlteredRow.unfollowed == Tryz.prog.unfollowed 3) = true := by kernel_rfl
set_option maxRecDepth 100000 in
theorem j_recurses : (Rows.hostAlteredRow.recurses == Tryz.prog.recurses 3) = true := by kernel_rfl
set_option maxRecDepth 100000 in
theorem j_named : (Rows.hostAlteredRow.named == Tryz.prog.varsNamed 3) = true := by kernel_rfl
set_option maxRecDepth 100000 in
theorem j_func : Tryz.prog.funcNamed Rows.hostAlteredRow.func = some 3 := by kernel_rfl
set_option maxRecDepth 100000 in
theorem joined : joinedFacts Tryz.prog 3 Tryz.f3 Rows.hostAlteredSpec Rows.hostAlteredRow = true := by
  unfold joinedFacts
  rw [laid_out, maps_rowed, j_inPlace, j_unfollowed, j_recurses, j_named]
  kernel_rfl

end Go.Proofs.YtjjfmhaakickcaaGreat.hostAltered

/-
  HostAnswers: the closed facts of its row.
-/
import Derived.Test.YtfiefdkgneilkaaGreatRows
import Derived.Test.YtfiefdkgneilkaaGreatJl
set_option linter.unusedVariables false
set_option linter.unusedSimpArgs false
namespace Go.Proofs.YtfiefdkgneilkaaGreat.hostAnswers
open Go

set_option maxRecDepth 100000 in
theorem j_inPlace : (Rows.hostAnswersRow.inPlace == Tryz.prog.inPlace 8) = true := by kernel_rfl
set_option maxRecDepth 100000 in
theorem j_unfollowed : (Rows.hostAnswersRow.unfollowed == Tryz.prog.unfollowed 8) = true := by kernel_rfl
set_option maxRecDepth 100000 in
theorem j_recurses : (Rows.hostAnswersRow.recurses == Tryz.prog.recurses 8) = true := by kernel_rfl
set_option maxRecDepth 100000 in
theorem j_named : (Rows.hostAnswersRow.named == Tryz.prog.varsNamed 8) = true := by kernel_rfl
set_option maxRecDepth 100000 in
theorem j_func : Tryz.prog.funcNamed Rows.hostAnswersRow.func = some 8 := by kernel_rfl
set_option maxRecDepth 100000 in
theorem joined : joinedFacts Tryz.prog 8 Tryz.f8 Rows.hostAnswersSpec Rows.hostAnswersRow = true := by
  unfold joinedFacts
  rw [laid_out, maps_rowed, j_inPlace, j_unfollowed, j_recurses, j_named]
  kernel_rfl

end Go.Proofs.YtfiefdkgneilkaaGreat.hostAnswers

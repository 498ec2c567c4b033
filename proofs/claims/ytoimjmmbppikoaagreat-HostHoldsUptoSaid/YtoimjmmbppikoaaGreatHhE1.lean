/-
  HostHolds: a round out of S1, reckoned.
-/
import Derived.Test.YtoimjmmbppikoaaGreatHhS1
set_option linter.unusedVariables false
set_option linter.unusedSimpArgs false
namespace Go.Proofs.YtoimjmmbppikoaaGreat
open Go

theorem lv1 : leavesT Tryz.prog ops14 callH 103 treeT (patS1.st [], patS1.ts 103) = some [lexK patS1, lexK patS1, lexK patS1, lexK patS1, lexK patS1, lexK patS1] := by kernel_rfl
theorem en1 : endsR (heavy [(1, patS1), (2, patS2)] (lexK patS1)) [] = some LL1 := by kernel_rfl

end Go.Proofs.YtoimjmmbppikoaaGreat

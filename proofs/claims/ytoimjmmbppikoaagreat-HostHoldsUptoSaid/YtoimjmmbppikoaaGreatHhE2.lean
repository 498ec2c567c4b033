/-
  HostHolds: a round out of S2, reckoned.
-/
import Derived.Test.YtoimjmmbppikoaaGreatHhS2
set_option linter.unusedVariables false
set_option linter.unusedSimpArgs false
namespace Go.Proofs.YtoimjmmbppikoaaGreat
open Go

theorem lv2 : leavesT Tryz.prog ops14 callH 103 treeT (patS2.st [], patS2.ts 103) = some [lexK patS2, lexK patS2, lexK patS2, lexK patS2, lexK patS2, lexK patS2] := by kernel_rfl
theorem en2 : endsR (heavy [(2, patS2), (3, patS3)] (lexK patS2)) [] = some LL2 := by kernel_rfl

end Go.Proofs.YtoimjmmbppikoaaGreat

/-
  HostHolds: a round out of S3, reckoned.
-/
import Derived.Test.YtoimjmmbppikoaaGreatHhS3
set_option linter.unusedVariables false
set_option linter.unusedSimpArgs false
namespace Go.Proofs.YtoimjmmbppikoaaGreat
open Go

theorem lv3 : leavesT Tryz.prog ops14 callH 103 treeT (patS3.st [], patS3.ts 103) = some [lexK patS3, lexK patS3, lexK patS3, lexK patS3, lexK patS3, lexK patS3] := by kernel_rfl
theorem en3 : endsR (heavy [(3, patS3), (4, patS4)] (lexK patS3)) [] = some LL3 := by kernel_rfl

end Go.Proofs.YtoimjmmbppikoaaGreat

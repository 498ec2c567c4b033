/-
  HostHolds: a round out of P, reckoned.
-/
import Derived.Test.YtoimjmmbppikoaaGreatHhS0
set_option linter.unusedVariables false
set_option linter.unusedSimpArgs false
namespace Go.Proofs.YtoimjmmbppikoaaGreat
open Go

theorem lv0 : leavesT Tryz.prog ops14 callH 103 treeT (patP.st [], patP.ts 103) = some [lexK patP, lexK patP, lexK patP, lexK patP, lexK patP, lexK patP] := by kernel_rfl
theorem en0 : endsR (heavy [(0, patP), (1, patS1)] (lexK patP)) [] = some LL0 := by kernel_rfl

end Go.Proofs.YtoimjmmbppikoaaGreat

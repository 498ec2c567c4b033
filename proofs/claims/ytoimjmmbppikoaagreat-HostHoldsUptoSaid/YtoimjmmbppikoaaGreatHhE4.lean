/-
  HostHolds: a round out of S4, reckoned.
-/
import Derived.Test.YtoimjmmbppikoaaGreatHhS4
set_option linter.unusedVariables false
set_option linter.unusedSimpArgs false
namespace Go.Proofs.YtoimjmmbppikoaaGreat
open Go

theorem lv4 : leavesT Tryz.prog ops14 callH 103 treeT (patS4.st [], patS4.ts 103) = some [lexK patS4, lexK patS4, lexK patS4, lexK patS4, lexK patS4, lexK patS4] := by kernel_rfl
theorem en4 : endsR (heavy [(4, patS4)] (lexK patS4)) [] = some LL4 := by kernel_rfl

end Go.Proofs.YtoimjmmbppikoaaGreat

/-
  ConnCross: its run.
-/
import Derived.Test.YtdklpcjipkhenaaKn
set_option linter.unusedVariables false
namespace Go.Proofs.Ytdklpcjipkhenaa.connCross
open Go
def pcs0 : List (SB × Bool) := [((.cmp .eql (.bin .add .u32 (.var 0) (.lit (.ofNat 6))) (.bin .add .u32 (.var 0) (.lit (.ofNat 1)))), false)]
set_option maxRecDepth 1000000 in
theorem path0 : okRun (evCall Try.prog plans sums1 100000 4 [.int .u32 (.var 0), .int .u32 (.var 1)] (s0 [(.ofNat 5), (.ofNat 1000)]) fun v s => .done v s) pcs0 = true := by kernel_rfl

end Go.Proofs.Ytdklpcjipkhenaa.connCross

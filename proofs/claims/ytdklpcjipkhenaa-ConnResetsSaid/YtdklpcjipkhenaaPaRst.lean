/-
  ConnResets: its runs, path by path.
-/
import Derived.Test.YtdklpcjipkhenaaKn
set_option linter.unusedVariables false
namespace Go.Proofs.Ytdklpcjipkhenaa.connResets
open Go
def pcs0 : List (SB × Bool) := [((.cmp .eql (.var 0) (.lit (.ofNat 0))), true), ((.cmp .eql (.bin .add .u32 (.lit (.ofNat 501)) (.var 0)) (.lit (.ofNat 501))), true), ((.cmp .lss (.conv .i64 (.bin .sub .u32 (.bin .add .u32 (.lit (.ofNat 501)) (.var 0)) (.lit (.ofNat 501)))) (.lit (.ofNat 8192))), true)]
set_option maxRecDepth 1000000 in
theorem path0 : okRun (evCall Try.prog plans sums1 100000 3 [.int .u32 (.var 0)] (s0 [true, true, true]) fun v s => .done v s) pcs0 = true := by kernel_rfl
def pcs1 : List (SB × Bool) := [((.not (.cmp .lss (.var 0) (.lit (.ofNat 8192)))), true), ((.cmp .eql (.var 0) (.lit (.ofNat 0))), false), ((.cmp .lss (.conv .i64 (.bin .sub .u32 (.bin .add .u32 (.lit (.ofNat 501)) (.var 0)) (.lit (.ofNat 501)))) (.lit (.ofNat 8192))), false)]
set_option maxRecDepth 1000000 in
theorem path1 : okRun (evCall Try.prog plans sums1 100000 3 [.int .u32 (.var 0)] (s0 [false, false, true]) fun v s => .done v s) pcs1 = true := by kernel_rfl
def pcs2 : List (SB × Bool) := [((.cmp .lss (.var 0) (.lit (.ofNat 8192))), true), ((.cmp .eql (.var 0) (.lit (.ofNat 0))), false), ((.cmp .eql (.bin .add .u32 (.lit (.ofNat 501)) (.var 0)) (.lit (.ofNat 501))), false), ((.cmp .lss (.conv .i64 (.bin .sub .u32 (.bin .add .u32 (.lit (.ofNat 501)) (.var 0)) (.lit (.ofNat 501)))) (.lit (.ofNat 8192))), true)]
set_option maxRecDepth 1000000 in
theorem path2 : okRun (evCall Try.prog plans sums1 100000 3 [.int .u32 (.var 0)] (s0 [true, false, false, true]) fun v s => .done v s) pcs2 = true := by kernel_rfl

end Go.Proofs.Ytdklpcjipkhenaa.connResets

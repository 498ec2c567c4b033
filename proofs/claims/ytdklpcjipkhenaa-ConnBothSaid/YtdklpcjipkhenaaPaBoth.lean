/-
  ConnBoth: its runs, path by path.
-/
import Derived.Test.YtdklpcjipkhenaaKn
set_option linter.unusedVariables false
namespace Go.Proofs.Ytdklpcjipkhenaa.connBoth
open Go
def pcs0 : List (SB × Bool) := [((.cmp .lss (.var 0) (.lit (.ofNat 1))), true)]
set_option maxRecDepth 1000000 in
theorem path0 : okRun (evCall Try.prog plans sums1 100000 9 [.int .i64 (.var 0)] (s0 [(.ofNat 0)]) fun v s => .done v s) pcs0 = true := by kernel_rfl
def pcs1 : List (SB × Bool) := [((.cmp .leq (.bin .add .i64 (.var 0) (.lit (.ofNat 120))) (.bin .add .i64 (.var 0) (.lit (.ofNat 120)))), true),
  ((.cmp .gtr (.var 0) (.lit (.ofNat 9223372036854775687))), false),
  ((.cmp .gtr (.bin .sub .i64 (.var 0) (.var 0)) (.lit (.ofNat 1))), false),
  ((.cmp .lss (.bin .sub .i64 (.var 0) (.var 0)) (.lit (.ofNat 1048576))), true),
  ((.cmp .lss (.var 0) (.lit (.ofNat 0))), false),
  ((.cmp .geq (.var 0) (.lit (.ofNat 0))), true),
  ((.cmp .gtr (.var 0) (.lit (.ofNat 9223372036854775797))), false),
  ((.cmp .gtr (.var 0) (.lit (.ofNat 1099511626776))), false),
  ((.cmp .lss (.var 0) (.lit (.ofNat 1))), false)]
set_option maxRecDepth 1000000 in
theorem path1 : okRun (evCall Try.prog plans sums1 100000 9 [.int .i64 (.var 0)] (s0 [(.ofNat 1)]) fun v s => .done v s) pcs1 = true := by kernel_rfl
def pcs2 : List (SB × Bool) := [((.cmp .gtr (.var 0) (.lit (.ofNat 1099511626776))), true),
  ((.cmp .lss (.var 0) (.lit (.ofNat 1))), false)]
set_option maxRecDepth 1000000 in
theorem path2 : okRun (evCall Try.prog plans sums1 100000 9 [.int .i64 (.var 0)] (s0 [(.ofNat 1099511626777)]) fun v s => .done v s) pcs2 = true := by kernel_rfl

end Go.Proofs.Ytdklpcjipkhenaa.connBoth

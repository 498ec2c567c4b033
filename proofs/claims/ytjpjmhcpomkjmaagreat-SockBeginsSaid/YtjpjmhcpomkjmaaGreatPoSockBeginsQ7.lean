import Derived.Test.YtjpjmhcpomkjmaaGreatCg
import Derived.Test.YtjpjmhcpomkjmaaGreatPls
import Derived.Test.YtjpjmhcpomkjmaaGreatSpr
import Derived.Test.YtjpjmhcpomkjmaaGreatProg
set_option linter.unusedVariables false
set_option linter.unusedSimpArgs false
namespace Go.Proofs.YtjpjmhcpomkjmaaGreat.sockBegins
open Go

set_option maxRecDepth 1000000 in
theorem pW31_ok  : okT2 0 (.ofNat 0) 0 (isB true) (evCall Tryz.prog plans sumsAt 100000 3 [.agg [.int .u8 (.var 0), .int .u8 (.var 1), .int .u8 (.var 2), .int .u8 (.var 3), .int .u8 (.var 4), .int .u8 (.var 5), .int .u32 (.var 6), .int .i64 (.lit (.ofNat 31)), .int .u32 (.var 8)]] (s0 [((.cmp .eql (.bin .and .u8 (.var 0) (.lit (.ofNat 1))) (.lit (.ofNat 0))), true), ((.cmp .eql (.bin .rem .u8 (.var 0) (.lit (.ofNat 2))) (.lit (.ofNat 1))), false)] [[]] [((.ofNat 0), (.ofNat 255)), ((.ofNat 0), (.ofNat 255)), ((.ofNat 0), (.ofNat 255)), ((.ofNat 0), (.ofNat 255)), ((.ofNat 0), (.ofNat 255)), ((.ofNat 0), (.ofNat 255)), ((.ofNat 1), (.ofNat 3758096383)), ((.ofNat 31), (.ofNat 31)), ((.ofNat 1), (.ofNat 3758096383))]) finK) [((.cmp .eql (.bin .and .u8 (.var 0) (.lit (.ofNat 1))) (.lit (.ofNat 0))), true), ((.cmp .eql (.bin .rem .u8 (.var 0) (.lit (.ofNat 2))) (.lit (.ofNat 1))), false)] = true := by kernel_rfl

set_option maxRecDepth 1000000 in
theorem pN32_ok  : okT2 0 (.ofNat 0) 0 (isB true) (evCall Tryz.prog plans sumsAt 100000 3 [.agg [.int .u8 (.var 0), .int .u8 (.var 1), .int .u8 (.var 2), .int .u8 (.var 3), .int .u8 (.var 4), .int .u8 (.var 5), .int .u32 (.var 6), .int .i64 (.lit (.ofNat 32)), .int .u32 (.lit (.ofNat 0))]] (s0 [((.cmp .eql (.bin .and .u8 (.var 0) (.lit (.ofNat 1))) (.lit (.ofNat 0))), true), ((.cmp .eql (.bin .rem .u8 (.var 0) (.lit (.ofNat 2))) (.lit (.ofNat 1))), false)] [[]] [((.ofNat 0), (.ofNat 255)), ((.ofNat 0), (.ofNat 255)), ((.ofNat 0), (.ofNat 255)), ((.ofNat 0), (.ofNat 255)), ((.ofNat 0), (.ofNat 255)), ((.ofNat 0), (.ofNat 255)), ((.ofNat 1), (.ofNat 3758096383)), ((.ofNat 32), (.ofNat 32)), ((.ofNat 0), (.ofNat 0))]) finK) [((.cmp .eql (.bin .and .u8 (.var 0) (.lit (.ofNat 1))) (.lit (.ofNat 0))), true), ((.cmp .eql (.bin .rem .u8 (.var 0) (.lit (.ofNat 2))) (.lit (.ofNat 1))), false)] = true := by kernel_rfl

set_option maxRecDepth 1000000 in
theorem pW32_ok  : okT2 0 (.ofNat 0) 0 (isB true) (evCall Tryz.prog plans sumsAt 100000 3 [.agg [.int .u8 (.var 0), .int .u8 (.var 1), .int .u8 (.var 2), .int .u8 (.var 3), .int .u8 (.var 4), .int .u8 (.var 5), .int .u32 (.var 6), .int .i64 (.lit (.ofNat 32)), .int .u32 (.var 8)]] (s0 [((.cmp .eql (.bin .and .u8 (.var 0) (.lit (.ofNat 1))) (.lit (.ofNat 0))), true), ((.cmp .eql (.bin .rem .u8 (.var 0) (.lit (.ofNat 2))) (.lit (.ofNat 1))), false)] [[]] [((.ofNat 0), (.ofNat 255)), ((.ofNat 0), (.ofNat 255)), ((.ofNat 0), (.ofNat 255)), ((.ofNat 0), (.ofNat 255)), ((.ofNat 0), (.ofNat 255)), ((.ofNat 0), (.ofNat 255)), ((.ofNat 1), (.ofNat 3758096383)), ((.ofNat 32), (.ofNat 32)), ((.ofNat 1), (.ofNat 3758096383))]) finK) [((.cmp .eql (.bin .and .u8 (.var 0) (.lit (.ofNat 1))) (.lit (.ofNat 0))), true), ((.cmp .eql (.bin .rem .u8 (.var 0) (.lit (.ofNat 2))) (.lit (.ofNat 1))), false)] = true := by kernel_rfl
end Go.Proofs.YtjpjmhcpomkjmaaGreat.sockBegins

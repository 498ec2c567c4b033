/-
  SockRoom: runs, K49, K50, K51, K52, K53, K54, K55, K56, K57, K58, K59, K60, K61, K62, K63, N64.
-/
import Derived.Test.YtggoagemdhflfaaGreatSgRS
import Derived.Test.YtggoagemdhflfaaGreatRs
import Derived.Test.YtggoagemdhflfaaGreatPlsOk
import Derived.Test.YtggoagemdhflfaaGreatDed
set_option linter.unusedVariables false
set_option linter.unusedSimpArgs false
namespace Go.Proofs.YtggoagemdhflfaaGreat.sockRoom
open Go

set_option maxRecDepth 1000000 in
theorem pK49_ok : okT2 0 (.ofNat 0) 0 (isB true) (evCall Tryz.prog plans sockRoom.sumsG 100000 6 [.int .i64 (.var 0), .int .i64 (.lit (.ofNat 49))] (s0 [] [[]] [((.ofNat 0), (.ofNat 49)), ((.ofNat 49), (.ofNat 49))]) finK) [] = true := by kernel_rfl
theorem pK49_any (a0 : Int) (h0 : 0 ≤ a0 ∧ a0 ≤ 49) (a1 : Int) (h1 : 49 ≤ a1 ∧ a1 ≤ 49) (w : World) : Calls Tryz.prog 6 #[.int .i64 a0, .int .i64 a1] w fun e w' => e = .returned (.bool true) ∧ Kp [] w w' := by
  obtain rfl : a1 = 49 := by omega
  exact run_bool2 follows_mixed plans_ok sockRoom.sumsG_ok (pK49_ok) (fun i => if i = 0 then a0 else if i = 1 then 49 else 0) (rgOk_cons (⟨h0.1, h0.2⟩) (rgOk_cons (⟨Int.le_refl _, Int.le_refl _⟩) (rgOk_nil))) (.inl rfl) (xs := [.int .i64 a0, .int .i64 49]) (by rfl) w

set_option maxRecDepth 1000000 in
theorem pK50_ok : okT2 0 (.ofNat 0) 0 (isB true) (evCall Tryz.prog plans sockRoom.sumsG 100000 6 [.int .i64 (.var 0), .int .i64 (.lit (.ofNat 50))] (s0 [] [[]] [((.ofNat 0), (.ofNat 50)), ((.ofNat 50), (.ofNat 50))]) finK) [] = true := by kernel_rfl
theorem pK50_any (a0 : Int) (h0 : 0 ≤ a0 ∧ a0 ≤ 50) (a1 : Int) (h1 : 50 ≤ a1 ∧ a1 ≤ 50) (w : World) : Calls Tryz.prog 6 #[.int .i64 a0, .int .i64 a1] w fun e w' => e = .returned (.bool true) ∧ Kp [] w w' := by
  obtain rfl : a1 = 50 := by omega
  exact run_bool2 follows_mixed plans_ok sockRoom.sumsG_ok (pK50_ok) (fun i => if i = 0 then a0 else if i = 1 then 50 else 0) (rgOk_cons (⟨h0.1, h0.2⟩) (rgOk_cons (⟨Int.le_refl _, Int.le_refl _⟩) (rgOk_nil))) (.inl rfl) (xs := [.int .i64 a0, .int .i64 50]) (by rfl) w

set_option maxRecDepth 1000000 in
theorem pK51_ok : okT2 0 (.ofNat 0) 0 (isB true) (evCall Tryz.prog plans sockRoom.sumsG 100000 6 [.int .i64 (.var 0), .int .i64 (.lit (.ofNat 51))] (s0 [] [[]] [((.ofNat 0), (.ofNat 51)), ((.ofNat 51), (.ofNat 51))]) finK) [] = true := by kernel_rfl
theorem pK51_any (a0 : Int) (h0 : 0 ≤ a0 ∧ a0 ≤ 51) (a1 : Int) (h1 : 51 ≤ a1 ∧ a1 ≤ 51) (w : World) : Calls Tryz.prog 6 #[.int .i64 a0, .int .i64 a1] w fun e w' => e = .returned (.bool true) ∧ Kp [] w w' := by
  obtain rfl : a1 = 51 := by omega
  exact run_bool2 follows_mixed plans_ok sockRoom.sumsG_ok (pK51_ok) (fun i => if i = 0 then a0 else if i = 1 then 51 else 0) (rgOk_cons (⟨h0.1, h0.2⟩) (rgOk_cons (⟨Int.le_refl _, Int.le_refl _⟩) (rgOk_nil))) (.inl rfl) (xs := [.int .i64 a0, .int .i64 51]) (by rfl) w

set_option maxRecDepth 1000000 in
theorem pK52_ok : okT2 0 (.ofNat 0) 0 (isB true) (evCall Tryz.prog plans sockRoom.sumsG 100000 6 [.int .i64 (.var 0), .int .i64 (.lit (.ofNat 52))] (s0 [] [[]] [((.ofNat 0), (.ofNat 52)), ((.ofNat 52), (.ofNat 52))]) finK) [] = true := by kernel_rfl
theorem pK52_any (a0 : Int) (h0 : 0 ≤ a0 ∧ a0 ≤ 52) (a1 : Int) (h1 : 52 ≤ a1 ∧ a1 ≤ 52) (w : World) : Calls Tryz.prog 6 #[.int .i64 a0, .int .i64 a1] w fun e w' => e = .returned (.bool true) ∧ Kp [] w w' := by
  obtain rfl : a1 = 52 := by omega
  exact run_bool2 follows_mixed plans_ok sockRoom.sumsG_ok (pK52_ok) (fun i => if i = 0 then a0 else if i = 1 then 52 else 0) (rgOk_cons (⟨h0.1, h0.2⟩) (rgOk_cons (⟨Int.le_refl _, Int.le_refl _⟩) (rgOk_nil))) (.inl rfl) (xs := [.int .i64 a0, .int .i64 52]) (by rfl) w

set_option maxRecDepth 1000000 in
theorem pK53_ok : okT2 0 (.ofNat 0) 0 (isB true) (evCall Tryz.prog plans sockRoom.sumsG 100000 6 [.int .i64 (.var 0), .int .i64 (.lit (.ofNat 53))] (s0 [] [[]] [((.ofNat 0), (.ofNat 53)), ((.ofNat 53), (.ofNat 53))]) finK) [] = true := by kernel_rfl
theorem pK53_any (a0 : Int) (h0 : 0 ≤ a0 ∧ a0 ≤ 53) (a1 : Int) (h1 : 53 ≤ a1 ∧ a1 ≤ 53) (w : World) : Calls Tryz.prog 6 #[.int .i64 a0, .int .i64 a1] w fun e w' => e = .returned (.bool true) ∧ Kp [] w w' := by
  obtain rfl : a1 = 53 := by omega
  exact run_bool2 follows_mixed plans_ok sockRoom.sumsG_ok (pK53_ok) (fun i => if i = 0 then a0 else if i = 1 then 53 else 0) (rgOk_cons (⟨h0.1, h0.2⟩) (rgOk_cons (⟨Int.le_refl _, Int.le_refl _⟩) (rgOk_nil))) (.inl rfl) (xs := [.int .i64 a0, .int .i64 53]) (by rfl) w

set_option maxRecDepth 1000000 in
theorem pK54_ok : okT2 0 (.ofNat 0) 0 (isB true) (evCall Tryz.prog plans sockRoom.sumsG 100000 6 [.int .i64 (.var 0), .int .i64 (.lit (.ofNat 54))] (s0 [] [[]] [((.ofNat 0), (.ofNat 54)), ((.ofNat 54), (.ofNat 54))]) finK) [] = true := by kernel_rfl
theorem pK54_any (a0 : Int) (h0 : 0 ≤ a0 ∧ a0 ≤ 54) (a1 : Int) (h1 : 54 ≤ a1 ∧ a1 ≤ 54) (w : World) : Calls Tryz.prog 6 #[.int .i64 a0, .int .i64 a1] w fun e w' => e = .returned (.bool true) ∧ Kp [] w w' := by
  obtain rfl : a1 = 54 := by omega
  exact run_bool2 follows_mixed plans_ok sockRoom.sumsG_ok (pK54_ok) (fun i => if i = 0 then a0 else if i = 1 then 54 else 0) (rgOk_cons (⟨h0.1, h0.2⟩) (rgOk_cons (⟨Int.le_refl _, Int.le_refl _⟩) (rgOk_nil))) (.inl rfl) (xs := [.int .i64 a0, .int .i64 54]) (by rfl) w

set_option maxRecDepth 1000000 in
theorem pK55_ok : okT2 0 (.ofNat 0) 0 (isB true) (evCall Tryz.prog plans sockRoom.sumsG 100000 6 [.int .i64 (.var 0), .int .i64 (.lit (.ofNat 55))] (s0 [] [[]] [((.ofNat 0), (.ofNat 55)), ((.ofNat 55), (.ofNat 55))]) finK) [] = true := by kernel_rfl
theorem pK55_any (a0 : Int) (h0 : 0 ≤ a0 ∧ a0 ≤ 55) (a1 : Int) (h1 : 55 ≤ a1 ∧ a1 ≤ 55) (w : World) : Calls Tryz.prog 6 #[.int .i64 a0, .int .i64 a1] w fun e w' => e = .returned (.bool true) ∧ Kp [] w w' := by
  obtain rfl : a1 = 55 := by omega
  exact run_bool2 follows_mixed plans_ok sockRoom.sumsG_ok (pK55_ok) (fun i => if i = 0 then a0 else if i = 1 then 55 else 0) (rgOk_cons (⟨h0.1, h0.2⟩) (rgOk_cons (⟨Int.le_refl _, Int.le_refl _⟩) (rgOk_nil))) (.inl rfl) (xs := [.int .i64 a0, .int .i64 55]) (by rfl) w

set_option maxRecDepth 1000000 in
theorem pK56_ok : okT2 0 (.ofNat 0) 0 (isB true) (evCall Tryz.prog plans sockRoom.sumsG 100000 6 [.int .i64 (.var 0), .int .i64 (.lit (.ofNat 56))] (s0 [] [[]] [((.ofNat 0), (.ofNat 56)), ((.ofNat 56), (.ofNat 56))]) finK) [] = true := by kernel_rfl
theorem pK56_any (a0 : Int) (h0 : 0 ≤ a0 ∧ a0 ≤ 56) (a1 : Int) (h1 : 56 ≤ a1 ∧ a1 ≤ 56) (w : World) : Calls Tryz.prog 6 #[.int .i64 a0, .int .i64 a1] w fun e w' => e = .returned (.bool true) ∧ Kp [] w w' := by
  obtain rfl : a1 = 56 := by omega
  exact run_bool2 follows_mixed plans_ok sockRoom.sumsG_ok (pK56_ok) (fun i => if i = 0 then a0 else if i = 1 then 56 else 0) (rgOk_cons (⟨h0.1, h0.2⟩) (rgOk_cons (⟨Int.le_refl _, Int.le_refl _⟩) (rgOk_nil))) (.inl rfl) (xs := [.int .i64 a0, .int .i64 56]) (by rfl) w

set_option maxRecDepth 1000000 in
theorem pK57_ok : okT2 0 (.ofNat 0) 0 (isB true) (evCall Tryz.prog plans sockRoom.sumsG 100000 6 [.int .i64 (.var 0), .int .i64 (.lit (.ofNat 57))] (s0 [] [[]] [((.ofNat 0), (.ofNat 57)), ((.ofNat 57), (.ofNat 57))]) finK) [] = true := by kernel_rfl
theorem pK57_any (a0 : Int) (h0 : 0 ≤ a0 ∧ a0 ≤ 57) (a1 : Int) (h1 : 57 ≤ a1 ∧ a1 ≤ 57) (w : World) : Calls Tryz.prog 6 #[.int .i64 a0, .int .i64 a1] w fun e w' => e = .returned (.bool true) ∧ Kp [] w w' := by
  obtain rfl : a1 = 57 := by omega
  exact run_bool2 follows_mixed plans_ok sockRoom.sumsG_ok (pK57_ok) (fun i => if i = 0 then a0 else if i = 1 then 57 else 0) (rgOk_cons (⟨h0.1, h0.2⟩) (rgOk_cons (⟨Int.le_refl _, Int.le_refl _⟩) (rgOk_nil))) (.inl rfl) (xs := [.int .i64 a0, .int .i64 57]) (by rfl) w

set_option maxRecDepth 1000000 in
theorem pK58_ok : okT2 0 (.ofNat 0) 0 (isB true) (evCall Tryz.prog plans sockRoom.sumsG 100000 6 [.int .i64 (.var 0), .int .i64 (.lit (.ofNat 58))] (s0 [] [[]] [((.ofNat 0), (.ofNat 58)), ((.ofNat 58), (.ofNat 58))]) finK) [] = true := by kernel_rfl
theorem pK58_any (a0 : Int) (h0 : 0 ≤ a0 ∧ a0 ≤ 58) (a1 : Int) (h1 : 58 ≤ a1 ∧ a1 ≤ 58) (w : World) : Calls Tryz.prog 6 #[.int .i64 a0, .int .i64 a1] w fun e w' => e = .returned (.bool true) ∧ Kp [] w w' := by
  obtain rfl : a1 = 58 := by omega
  exact run_bool2 follows_mixed plans_ok sockRoom.sumsG_ok (pK58_ok) (fun i => if i = 0 then a0 else if i = 1 then 58 else 0) (rgOk_cons (⟨h0.1, h0.2⟩) (rgOk_cons (⟨Int.le_refl _, Int.le_refl _⟩) (rgOk_nil))) (.inl rfl) (xs := [.int .i64 a0, .int .i64 58]) (by rfl) w

set_option maxRecDepth 1000000 in
theorem pK59_ok : okT2 0 (.ofNat 0) 0 (isB true) (evCall Tryz.prog plans sockRoom.sumsG 100000 6 [.int .i64 (.var 0), .int .i64 (.lit (.ofNat 59))] (s0 [] [[]] [((.ofNat 0), (.ofNat 59)), ((.ofNat 59), (.ofNat 59))]) finK) [] = true := by kernel_rfl
theorem pK59_any (a0 : Int) (h0 : 0 ≤ a0 ∧ a0 ≤ 59) (a1 : Int) (h1 : 59 ≤ a1 ∧ a1 ≤ 59) (w : World) : Calls Tryz.prog 6 #[.int .i64 a0, .int .i64 a1] w fun e w' => e = .returned (.bool true) ∧ Kp [] w w' := by
  obtain rfl : a1 = 59 := by omega
  exact run_bool2 follows_mixed plans_ok sockRoom.sumsG_ok (pK59_ok) (fun i => if i = 0 then a0 else if i = 1 then 59 else 0) (rgOk_cons (⟨h0.1, h0.2⟩) (rgOk_cons (⟨Int.le_refl _, Int.le_refl _⟩) (rgOk_nil))) (.inl rfl) (xs := [.int .i64 a0, .int .i64 59]) (by rfl) w

set_option maxRecDepth 1000000 in
theorem pK60_ok : okT2 0 (.ofNat 0) 0 (isB true) (evCall Tryz.prog plans sockRoom.sumsG 100000 6 [.int .i64 (.var 0), .int .i64 (.lit (.ofNat 60))] (s0 [] [[]] [((.ofNat 0), (.ofNat 60)), ((.ofNat 60), (.ofNat 60))]) finK) [] = true := by kernel_rfl
theorem pK60_any (a0 : Int) (h0 : 0 ≤ a0 ∧ a0 ≤ 60) (a1 : Int) (h1 : 60 ≤ a1 ∧ a1 ≤ 60) (w : World) : Calls Tryz.prog 6 #[.int .i64 a0, .int .i64 a1] w fun e w' => e = .returned (.bool true) ∧ Kp [] w w' := by
  obtain rfl : a1 = 60 := by omega
  exact run_bool2 follows_mixed plans_ok sockRoom.sumsG_ok (pK60_ok) (fun i => if i = 0 then a0 else if i = 1 then 60 else 0) (rgOk_cons (⟨h0.1, h0.2⟩) (rgOk_cons (⟨Int.le_refl _, Int.le_refl _⟩) (rgOk_nil))) (.inl rfl) (xs := [.int .i64 a0, .int .i64 60]) (by rfl) w

set_option maxRecDepth 1000000 in
theorem pK61_ok : okT2 0 (.ofNat 0) 0 (isB true) (evCall Tryz.prog plans sockRoom.sumsG 100000 6 [.int .i64 (.var 0), .int .i64 (.lit (.ofNat 61))] (s0 [] [[]] [((.ofNat 0), (.ofNat 61)), ((.ofNat 61), (.ofNat 61))]) finK) [] = true := by kernel_rfl
theorem pK61_any (a0 : Int) (h0 : 0 ≤ a0 ∧ a0 ≤ 61) (a1 : Int) (h1 : 61 ≤ a1 ∧ a1 ≤ 61) (w : World) : Calls Tryz.prog 6 #[.int .i64 a0, .int .i64 a1] w fun e w' => e = .returned (.bool true) ∧ Kp [] w w' := by
  obtain rfl : a1 = 61 := by omega
  exact run_bool2 follows_mixed plans_ok sockRoom.sumsG_ok (pK61_ok) (fun i => if i = 0 then a0 else if i = 1 then 61 else 0) (rgOk_cons (⟨h0.1, h0.2⟩) (rgOk_cons (⟨Int.le_refl _, Int.le_refl _⟩) (rgOk_nil))) (.inl rfl) (xs := [.int .i64 a0, .int .i64 61]) (by rfl) w

set_option maxRecDepth 1000000 in
theorem pK62_ok : okT2 0 (.ofNat 0) 0 (isB true) (evCall Tryz.prog plans sockRoom.sumsG 100000 6 [.int .i64 (.var 0), .int .i64 (.lit (.ofNat 62))] (s0 [] [[]] [((.ofNat 0), (.ofNat 62)), ((.ofNat 62), (.ofNat 62))]) finK) [] = true := by kernel_rfl
theorem pK62_any (a0 : Int) (h0 : 0 ≤ a0 ∧ a0 ≤ 62) (a1 : Int) (h1 : 62 ≤ a1 ∧ a1 ≤ 62) (w : World) : Calls Tryz.prog 6 #[.int .i64 a0, .int .i64 a1] w fun e w' => e = .returned (.bool true) ∧ Kp [] w w' := by
  obtain rfl : a1 = 62 := by omega
  exact run_bool2 follows_mixed plans_ok sockRoom.sumsG_ok (pK62_ok) (fun i => if i = 0 then a0 else if i = 1 then 62 else 0) (rgOk_cons (⟨h0.1, h0.2⟩) (rgOk_cons (⟨Int.le_refl _, Int.le_refl _⟩) (rgOk_nil))) (.inl rfl) (xs := [.int .i64 a0, .int .i64 62]) (by rfl) w

set_option maxRecDepth 1000000 in
theorem pK63_ok : okT2 0 (.ofNat 0) 0 (isB true) (evCall Tryz.prog plans sockRoom.sumsG 100000 6 [.int .i64 (.var 0), .int .i64 (.lit (.ofNat 63))] (s0 [] [[]] [((.ofNat 0), (.ofNat 63)), ((.ofNat 63), (.ofNat 63))]) finK) [] = true := by kernel_rfl
theorem pK63_any (a0 : Int) (h0 : 0 ≤ a0 ∧ a0 ≤ 63) (a1 : Int) (h1 : 63 ≤ a1 ∧ a1 ≤ 63) (w : World) : Calls Tryz.prog 6 #[.int .i64 a0, .int .i64 a1] w fun e w' => e = .returned (.bool true) ∧ Kp [] w w' := by
  obtain rfl : a1 = 63 := by omega
  exact run_bool2 follows_mixed plans_ok sockRoom.sumsG_ok (pK63_ok) (fun i => if i = 0 then a0 else if i = 1 then 63 else 0) (rgOk_cons (⟨h0.1, h0.2⟩) (rgOk_cons (⟨Int.le_refl _, Int.le_refl _⟩) (rgOk_nil))) (.inl rfl) (xs := [.int .i64 a0, .int .i64 63]) (by rfl) w

set_option maxRecDepth 1000000 in
theorem pN64_ok : okT2 1 (.ofNat 0) 64 (isB true) (evCall Tryz.prog plans sockRoom.sumsG 100000 6 [.int .i64 (.lit (.ofNat 64)), .int .i64 (.var 1)] (s0 [] [[(.ofNat 64), (.ofNat 0)], [(.ofNat 64), (.ofNat 1)], [(.ofNat 64), (.ofNat 2)], [(.ofNat 64), (.ofNat 3)], [(.ofNat 64), (.ofNat 4)], [(.ofNat 64), (.ofNat 5)], [(.ofNat 64), (.ofNat 6)], [(.ofNat 64), (.ofNat 7)], [(.ofNat 64), (.ofNat 8)], [(.ofNat 64), (.ofNat 9)], [(.ofNat 64), (.ofNat 10)], [(.ofNat 64), (.ofNat 11)], [(.ofNat 64), (.ofNat 12)], [(.ofNat 64), (.ofNat 13)], [(.ofNat 64), (.ofNat 14)], [(.ofNat 64), (.ofNat 15)], [(.ofNat 64), (.ofNat 16)], [(.ofNat 64), (.ofNat 17)], [(.ofNat 64), (.ofNat 18)], [(.ofNat 64), (.ofNat 19)], [(.ofNat 64), (.ofNat 20)], [(.ofNat 64), (.ofNat 21)], [(.ofNat 64), (.ofNat 22)], [(.ofNat 64), (.ofNat 23)], [(.ofNat 64), (.ofNat 24)], [(.ofNat 64), (.ofNat 25)], [(.ofNat 64), (.ofNat 26)], [(.ofNat 64), (.ofNat 27)], [(.ofNat 64), (.ofNat 28)], [(.ofNat 64), (.ofNat 29)], [(.ofNat 64), (.ofNat 30)], [(.ofNat 64), (.ofNat 31)], [(.ofNat 64), (.ofNat 32)], [(.ofNat 64), (.ofNat 33)], [(.ofNat 64), (.ofNat 34)], [(.ofNat 64), (.ofNat 35)], [(.ofNat 64), (.ofNat 36)], [(.ofNat 64), (.ofNat 37)], [(.ofNat 64), (.ofNat 38)], [(.ofNat 64), (.ofNat 39)], [(.ofNat 64), (.ofNat 40)], [(.ofNat 64), (.ofNat 41)], [(.ofNat 64), (.ofNat 42)], [(.ofNat 64), (.ofNat 43)], [(.ofNat 64), (.ofNat 44)], [(.ofNat 64), (.ofNat 45)], [(.ofNat 64), (.ofNat 46)], [(.ofNat 64), (.ofNat 47)], [(.ofNat 64), (.ofNat 48)], [(.ofNat 64), (.ofNat 49)], [(.ofNat 64), (.ofNat 50)], [(.ofNat 64), (.ofNat 51)], [(.ofNat 64), (.ofNat 52)], [(.ofNat 64), (.ofNat 53)], [(.ofNat 64), (.ofNat 54)], [(.ofNat 64), (.ofNat 55)], [(.ofNat 64), (.ofNat 56)], [(.ofNat 64), (.ofNat 57)], [(.ofNat 64), (.ofNat 58)], [(.ofNat 64), (.ofNat 59)], [(.ofNat 64), (.ofNat 60)], [(.ofNat 64), (.ofNat 61)], [(.ofNat 64), (.ofNat 62)], [(.ofNat 64), (.ofNat 63)]] [((.ofNat 64), (.ofNat 64)), ((.ofNat 0), (.ofNat 63))]) finK) [] = true := by kernel_rfl
theorem pN64_any (a0 : Int) (h0 : 64 ≤ a0 ∧ a0 ≤ 64) (a1 : Int) (h1 : 0 ≤ a1 ∧ a1 ≤ 63) (w : World) : Calls Tryz.prog 6 #[.int .i64 a0, .int .i64 a1] w fun e w' => e = .returned (.bool true) ∧ Kp [] w w' := by
  obtain rfl : a0 = 64 := by omega
  exact run_bool2 follows_mixed plans_ok sockRoom.sumsG_ok (pN64_ok) (fun i => if i = 0 then 64 else if i = 1 then a1 else 0) (rgOk_cons (⟨Int.le_refl _, Int.le_refl _⟩) (rgOk_cons (⟨h1.1, h1.2⟩) (rgOk_nil))) (.inr ⟨by show 0 ≤ a1; omega, by show a1 < 0 + ((64 : Nat) : Int); omega⟩) (xs := [.int .i64 64, .int .i64 a1]) (by rfl) w

end Go.Proofs.YtggoagemdhflfaaGreat.sockRoom

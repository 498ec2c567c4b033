/-
  SockRoom: runs, N1, N2, N3, N4, N5, N6, N7, N8, N9, N10, N11, N12, N13, N14, N15, N16, N17.
-/
import Derived.Test.YtggoagemdhflfaaGreatSgRS
import Derived.Test.YtggoagemdhflfaaGreatRs
import Derived.Test.YtggoagemdhflfaaGreatPlsOk
import Derived.Test.YtggoagemdhflfaaGreatDed
set_option linter.unusedVariables false
set_option linter.unusedSimpArgs false
namespace Go.Proofs.YtggoagemdhflfaaGreat.sockRoom
open Go

set_option maxRecDepth 1000000 in
theorem pN1_ok : okT2 1 (.ofNat 0) 1 (isB true) (evCall Tryz.prog plans sockRoom.sumsG 100000 6 [.int .i64 (.lit (.ofNat 1)), .int .i64 (.var 1)] (s0 [] [[(.ofNat 1), (.ofNat 0)]] [((.ofNat 1), (.ofNat 1)), ((.ofNat 0), (.ofNat 0))]) finK) [] = true := by kernel_rfl
theorem pN1_any (a0 : Int) (h0 : 1 ≤ a0 ∧ a0 ≤ 1) (a1 : Int) (h1 : 0 ≤ a1 ∧ a1 ≤ 0) (w : World) : Calls Tryz.prog 6 #[.int .i64 a0, .int .i64 a1] w fun e w' => e = .returned (.bool true) ∧ Kp [] w w' := by
  obtain rfl : a0 = 1 := by omega
  obtain rfl : a1 = 0 := by omega
  exact run_bool2 follows_mixed plans_ok sockRoom.sumsG_ok (pN1_ok) (fun i => if i = 0 then 1 else if i = 1 then 0 else 0) (rgOk_cons (⟨Int.le_refl _, Int.le_refl _⟩) (rgOk_cons (⟨Int.le_refl _, Int.le_refl _⟩) (rgOk_nil))) (.inr ⟨by show 0 ≤ (0 : Int); omega, by show (0 : Int) < 0 + ((1 : Nat) : Int); omega⟩) (xs := [.int .i64 1, .int .i64 0]) (by rfl) w

set_option maxRecDepth 1000000 in
theorem pN2_ok : okT2 1 (.ofNat 0) 2 (isB true) (evCall Tryz.prog plans sockRoom.sumsG 100000 6 [.int .i64 (.lit (.ofNat 2)), .int .i64 (.var 1)] (s0 [] [[(.ofNat 2), (.ofNat 0)], [(.ofNat 2), (.ofNat 1)]] [((.ofNat 2), (.ofNat 2)), ((.ofNat 0), (.ofNat 1))]) finK) [] = true := by kernel_rfl
theorem pN2_any (a0 : Int) (h0 : 2 ≤ a0 ∧ a0 ≤ 2) (a1 : Int) (h1 : 0 ≤ a1 ∧ a1 ≤ 1) (w : World) : Calls Tryz.prog 6 #[.int .i64 a0, .int .i64 a1] w fun e w' => e = .returned (.bool true) ∧ Kp [] w w' := by
  obtain rfl : a0 = 2 := by omega
  exact run_bool2 follows_mixed plans_ok sockRoom.sumsG_ok (pN2_ok) (fun i => if i = 0 then 2 else if i = 1 then a1 else 0) (rgOk_cons (⟨Int.le_refl _, Int.le_refl _⟩) (rgOk_cons (⟨h1.1, h1.2⟩) (rgOk_nil))) (.inr ⟨by show 0 ≤ a1; omega, by show a1 < 0 + ((2 : Nat) : Int); omega⟩) (xs := [.int .i64 2, .int .i64 a1]) (by rfl) w

set_option maxRecDepth 1000000 in
theorem pN3_ok : okT2 1 (.ofNat 0) 3 (isB true) (evCall Tryz.prog plans sockRoom.sumsG 100000 6 [.int .i64 (.lit (.ofNat 3)), .int .i64 (.var 1)] (s0 [] [[(.ofNat 3), (.ofNat 0)], [(.ofNat 3), (.ofNat 1)], [(.ofNat 3), (.ofNat 2)]] [((.ofNat 3), (.ofNat 3)), ((.ofNat 0), (.ofNat 2))]) finK) [] = true := by kernel_rfl
theorem pN3_any (a0 : Int) (h0 : 3 ≤ a0 ∧ a0 ≤ 3) (a1 : Int) (h1 : 0 ≤ a1 ∧ a1 ≤ 2) (w : World) : Calls Tryz.prog 6 #[.int .i64 a0, .int .i64 a1] w fun e w' => e = .returned (.bool true) ∧ Kp [] w w' := by
  obtain rfl : a0 = 3 := by omega
  exact run_bool2 follows_mixed plans_ok sockRoom.sumsG_ok (pN3_ok) (fun i => if i = 0 then 3 else if i = 1 then a1 else 0) (rgOk_cons (⟨Int.le_refl _, Int.le_refl _⟩) (rgOk_cons (⟨h1.1, h1.2⟩) (rgOk_nil))) (.inr ⟨by show 0 ≤ a1; omega, by show a1 < 0 + ((3 : Nat) : Int); omega⟩) (xs := [.int .i64 3, .int .i64 a1]) (by rfl) w

set_option maxRecDepth 1000000 in
theorem pN4_ok : okT2 1 (.ofNat 0) 4 (isB true) (evCall Tryz.prog plans sockRoom.sumsG 100000 6 [.int .i64 (.lit (.ofNat 4)), .int .i64 (.var 1)] (s0 [] [[(.ofNat 4), (.ofNat 0)], [(.ofNat 4), (.ofNat 1)], [(.ofNat 4), (.ofNat 2)], [(.ofNat 4), (.ofNat 3)]] [((.ofNat 4), (.ofNat 4)), ((.ofNat 0), (.ofNat 3))]) finK) [] = true := by kernel_rfl
theorem pN4_any (a0 : Int) (h0 : 4 ≤ a0 ∧ a0 ≤ 4) (a1 : Int) (h1 : 0 ≤ a1 ∧ a1 ≤ 3) (w : World) : Calls Tryz.prog 6 #[.int .i64 a0, .int .i64 a1] w fun e w' => e = .returned (.bool true) ∧ Kp [] w w' := by
  obtain rfl : a0 = 4 := by omega
  exact run_bool2 follows_mixed plans_ok sockRoom.sumsG_ok (pN4_ok) (fun i => if i = 0 then 4 else if i = 1 then a1 else 0) (rgOk_cons (⟨Int.le_refl _, Int.le_refl _⟩) (rgOk_cons (⟨h1.1, h1.2⟩) (rgOk_nil))) (.inr ⟨by show 0 ≤ a1; omega, by show a1 < 0 + ((4 : Nat) : Int); omega⟩) (xs := [.int .i64 4, .int .i64 a1]) (by rfl) w

set_option maxRecDepth 1000000 in
theorem pN5_ok : okT2 1 (.ofNat 0) 5 (isB true) (evCall Tryz.prog plans sockRoom.sumsG 100000 6 [.int .i64 (.lit (.ofNat 5)), .int .i64 (.var 1)] (s0 [] [[(.ofNat 5), (.ofNat 0)], [(.ofNat 5), (.ofNat 1)], [(.ofNat 5), (.ofNat 2)], [(.ofNat 5), (.ofNat 3)], [(.ofNat 5), (.ofNat 4)]] [((.ofNat 5), (.ofNat 5)), ((.ofNat 0), (.ofNat 4))]) finK) [] = true := by kernel_rfl
theorem pN5_any (a0 : Int) (h0 : 5 ≤ a0 ∧ a0 ≤ 5) (a1 : Int) (h1 : 0 ≤ a1 ∧ a1 ≤ 4) (w : World) : Calls Tryz.prog 6 #[.int .i64 a0, .int .i64 a1] w fun e w' => e = .returned (.bool true) ∧ Kp [] w w' := by
  obtain rfl : a0 = 5 := by omega
  exact run_bool2 follows_mixed plans_ok sockRoom.sumsG_ok (pN5_ok) (fun i => if i = 0 then 5 else if i = 1 then a1 else 0) (rgOk_cons (⟨Int.le_refl _, Int.le_refl _⟩) (rgOk_cons (⟨h1.1, h1.2⟩) (rgOk_nil))) (.inr ⟨by show 0 ≤ a1; omega, by show a1 < 0 + ((5 : Nat) : Int); omega⟩) (xs := [.int .i64 5, .int .i64 a1]) (by rfl) w

set_option maxRecDepth 1000000 in
theorem pN6_ok : okT2 1 (.ofNat 0) 6 (isB true) (evCall Tryz.prog plans sockRoom.sumsG 100000 6 [.int .i64 (.lit (.ofNat 6)), .int .i64 (.var 1)] (s0 [] [[(.ofNat 6), (.ofNat 0)], [(.ofNat 6), (.ofNat 1)], [(.ofNat 6), (.ofNat 2)], [(.ofNat 6), (.ofNat 3)], [(.ofNat 6), (.ofNat 4)], [(.ofNat 6), (.ofNat 5)]] [((.ofNat 6), (.ofNat 6)), ((.ofNat 0), (.ofNat 5))]) finK) [] = true := by kernel_rfl
theorem pN6_any (a0 : Int) (h0 : 6 ≤ a0 ∧ a0 ≤ 6) (a1 : Int) (h1 : 0 ≤ a1 ∧ a1 ≤ 5) (w : World) : Calls Tryz.prog 6 #[.int .i64 a0, .int .i64 a1] w fun e w' => e = .returned (.bool true) ∧ Kp [] w w' := by
  obtain rfl : a0 = 6 := by omega
  exact run_bool2 follows_mixed plans_ok sockRoom.sumsG_ok (pN6_ok) (fun i => if i = 0 then 6 else if i = 1 then a1 else 0) (rgOk_cons (⟨Int.le_refl _, Int.le_refl _⟩) (rgOk_cons (⟨h1.1, h1.2⟩) (rgOk_nil))) (.inr ⟨by show 0 ≤ a1; omega, by show a1 < 0 + ((6 : Nat) : Int); omega⟩) (xs := [.int .i64 6, .int .i64 a1]) (by rfl) w

set_option maxRecDepth 1000000 in
theorem pN7_ok : okT2 1 (.ofNat 0) 7 (isB true) (evCall Tryz.prog plans sockRoom.sumsG 100000 6 [.int .i64 (.lit (.ofNat 7)), .int .i64 (.var 1)] (s0 [] [[(.ofNat 7), (.ofNat 0)], [(.ofNat 7), (.ofNat 1)], [(.ofNat 7), (.ofNat 2)], [(.ofNat 7), (.ofNat 3)], [(.ofNat 7), (.ofNat 4)], [(.ofNat 7), (.ofNat 5)], [(.ofNat 7), (.ofNat 6)]] [((.ofNat 7), (.ofNat 7)), ((.ofNat 0), (.ofNat 6))]) finK) [] = true := by kernel_rfl
theorem pN7_any (a0 : Int) (h0 : 7 ≤ a0 ∧ a0 ≤ 7) (a1 : Int) (h1 : 0 ≤ a1 ∧ a1 ≤ 6) (w : World) : Calls Tryz.prog 6 #[.int .i64 a0, .int .i64 a1] w fun e w' => e = .returned (.bool true) ∧ Kp [] w w' := by
  obtain rfl : a0 = 7 := by omega
  exact run_bool2 follows_mixed plans_ok sockRoom.sumsG_ok (pN7_ok) (fun i => if i = 0 then 7 else if i = 1 then a1 else 0) (rgOk_cons (⟨Int.le_refl _, Int.le_refl _⟩) (rgOk_cons (⟨h1.1, h1.2⟩) (rgOk_nil))) (.inr ⟨by show 0 ≤ a1; omega, by show a1 < 0 + ((7 : Nat) : Int); omega⟩) (xs := [.int .i64 7, .int .i64 a1]) (by rfl) w

set_option maxRecDepth 1000000 in
theorem pN8_ok : okT2 1 (.ofNat 0) 8 (isB true) (evCall Tryz.prog plans sockRoom.sumsG 100000 6 [.int .i64 (.lit (.ofNat 8)), .int .i64 (.var 1)] (s0 [] [[(.ofNat 8), (.ofNat 0)], [(.ofNat 8), (.ofNat 1)], [(.ofNat 8), (.ofNat 2)], [(.ofNat 8), (.ofNat 3)], [(.ofNat 8), (.ofNat 4)], [(.ofNat 8), (.ofNat 5)], [(.ofNat 8), (.ofNat 6)], [(.ofNat 8), (.ofNat 7)]] [((.ofNat 8), (.ofNat 8)), ((.ofNat 0), (.ofNat 7))]) finK) [] = true := by kernel_rfl
theorem pN8_any (a0 : Int) (h0 : 8 ≤ a0 ∧ a0 ≤ 8) (a1 : Int) (h1 : 0 ≤ a1 ∧ a1 ≤ 7) (w : World) : Calls Tryz.prog 6 #[.int .i64 a0, .int .i64 a1] w fun e w' => e = .returned (.bool true) ∧ Kp [] w w' := by
  obtain rfl : a0 = 8 := by omega
  exact run_bool2 follows_mixed plans_ok sockRoom.sumsG_ok (pN8_ok) (fun i => if i = 0 then 8 else if i = 1 then a1 else 0) (rgOk_cons (⟨Int.le_refl _, Int.le_refl _⟩) (rgOk_cons (⟨h1.1, h1.2⟩) (rgOk_nil))) (.inr ⟨by show 0 ≤ a1; omega, by show a1 < 0 + ((8 : Nat) : Int); omega⟩) (xs := [.int .i64 8, .int .i64 a1]) (by rfl) w

set_option maxRecDepth 1000000 in
theorem pN9_ok : okT2 1 (.ofNat 0) 9 (isB true) (evCall Tryz.prog plans sockRoom.sumsG 100000 6 [.int .i64 (.lit (.ofNat 9)), .int .i64 (.var 1)] (s0 [] [[(.ofNat 9), (.ofNat 0)], [(.ofNat 9), (.ofNat 1)], [(.ofNat 9), (.ofNat 2)], [(.ofNat 9), (.ofNat 3)], [(.ofNat 9), (.ofNat 4)], [(.ofNat 9), (.ofNat 5)], [(.ofNat 9), (.ofNat 6)], [(.ofNat 9), (.ofNat 7)], [(.ofNat 9), (.ofNat 8)]] [((.ofNat 9), (.ofNat 9)), ((.ofNat 0), (.ofNat 8))]) finK) [] = true := by kernel_rfl
theorem pN9_any (a0 : Int) (h0 : 9 ≤ a0 ∧ a0 ≤ 9) (a1 : Int) (h1 : 0 ≤ a1 ∧ a1 ≤ 8) (w : World) : Calls Tryz.prog 6 #[.int .i64 a0, .int .i64 a1] w fun e w' => e = .returned (.bool true) ∧ Kp [] w w' := by
  obtain rfl : a0 = 9 := by omega
  exact run_bool2 follows_mixed plans_ok sockRoom.sumsG_ok (pN9_ok) (fun i => if i = 0 then 9 else if i = 1 then a1 else 0) (rgOk_cons (⟨Int.le_refl _, Int.le_refl _⟩) (rgOk_cons (⟨h1.1, h1.2⟩) (rgOk_nil))) (.inr ⟨by show 0 ≤ a1; omega, by show a1 < 0 + ((9 : Nat) : Int); omega⟩) (xs := [.int .i64 9, .int .i64 a1]) (by rfl) w

set_option maxRecDepth 1000000 in
theorem pN10_ok : okT2 1 (.ofNat 0) 10 (isB true) (evCall Tryz.prog plans sockRoom.sumsG 100000 6 [.int .i64 (.lit (.ofNat 10)), .int .i64 (.var 1)] (s0 [] [[(.ofNat 10), (.ofNat 0)], [(.ofNat 10), (.ofNat 1)], [(.ofNat 10), (.ofNat 2)], [(.ofNat 10), (.ofNat 3)], [(.ofNat 10), (.ofNat 4)], [(.ofNat 10), (.ofNat 5)], [(.ofNat 10), (.ofNat 6)], [(.ofNat 10), (.ofNat 7)], [(.ofNat 10), (.ofNat 8)], [(.ofNat 10), (.ofNat 9)]] [((.ofNat 10), (.ofNat 10)), ((.ofNat 0), (.ofNat 9))]) finK) [] = true := by kernel_rfl
theorem pN10_any (a0 : Int) (h0 : 10 ≤ a0 ∧ a0 ≤ 10) (a1 : Int) (h1 : 0 ≤ a1 ∧ a1 ≤ 9) (w : World) : Calls Tryz.prog 6 #[.int .i64 a0, .int .i64 a1] w fun e w' => e = .returned (.bool true) ∧ Kp [] w w' := by
  obtain rfl : a0 = 10 := by omega
  exact run_bool2 follows_mixed plans_ok sockRoom.sumsG_ok (pN10_ok) (fun i => if i = 0 then 10 else if i = 1 then a1 else 0) (rgOk_cons (⟨Int.le_refl _, Int.le_refl _⟩) (rgOk_cons (⟨h1.1, h1.2⟩) (rgOk_nil))) (.inr ⟨by show 0 ≤ a1; omega, by show a1 < 0 + ((10 : Nat) : Int); omega⟩) (xs := [.int .i64 10, .int .i64 a1]) (by rfl) w

set_option maxRecDepth 1000000 in
theorem pN11_ok : okT2 1 (.ofNat 0) 11 (isB true) (evCall Tryz.prog plans sockRoom.sumsG 100000 6 [.int .i64 (.lit (.ofNat 11)), .int .i64 (.var 1)] (s0 [] [[(.ofNat 11), (.ofNat 0)], [(.ofNat 11), (.ofNat 1)], [(.ofNat 11), (.ofNat 2)], [(.ofNat 11), (.ofNat 3)], [(.ofNat 11), (.ofNat 4)], [(.ofNat 11), (.ofNat 5)], [(.ofNat 11), (.ofNat 6)], [(.ofNat 11), (.ofNat 7)], [(.ofNat 11), (.ofNat 8)], [(.ofNat 11), (.ofNat 9)], [(.ofNat 11), (.ofNat 10)]] [((.ofNat 11), (.ofNat 11)), ((.ofNat 0), (.ofNat 10))]) finK) [] = true := by kernel_rfl
theorem pN11_any (a0 : Int) (h0 : 11 ≤ a0 ∧ a0 ≤ 11) (a1 : Int) (h1 : 0 ≤ a1 ∧ a1 ≤ 10) (w : World) : Calls Tryz.prog 6 #[.int .i64 a0, .int .i64 a1] w fun e w' => e = .returned (.bool true) ∧ Kp [] w w' := by
  obtain rfl : a0 = 11 := by omega
  exact run_bool2 follows_mixed plans_ok sockRoom.sumsG_ok (pN11_ok) (fun i => if i = 0 then 11 else if i = 1 then a1 else 0) (rgOk_cons (⟨Int.le_refl _, Int.le_refl _⟩) (rgOk_cons (⟨h1.1, h1.2⟩) (rgOk_nil))) (.inr ⟨by show 0 ≤ a1; omega, by show a1 < 0 + ((11 : Nat) : Int); omega⟩) (xs := [.int .i64 11, .int .i64 a1]) (by rfl) w

set_option maxRecDepth 1000000 in
theorem pN12_ok : okT2 1 (.ofNat 0) 12 (isB true) (evCall Tryz.prog plans sockRoom.sumsG 100000 6 [.int .i64 (.lit (.ofNat 12)), .int .i64 (.var 1)] (s0 [] [[(.ofNat 12), (.ofNat 0)], [(.ofNat 12), (.ofNat 1)], [(.ofNat 12), (.ofNat 2)], [(.ofNat 12), (.ofNat 3)], [(.ofNat 12), (.ofNat 4)], [(.ofNat 12), (.ofNat 5)], [(.ofNat 12), (.ofNat 6)], [(.ofNat 12), (.ofNat 7)], [(.ofNat 12), (.ofNat 8)], [(.ofNat 12), (.ofNat 9)], [(.ofNat 12), (.ofNat 10)], [(.ofNat 12), (.ofNat 11)]] [((.ofNat 12), (.ofNat 12)), ((.ofNat 0), (.ofNat 11))]) finK) [] = true := by kernel_rfl
theorem pN12_any (a0 : Int) (h0 : 12 ≤ a0 ∧ a0 ≤ 12) (a1 : Int) (h1 : 0 ≤ a1 ∧ a1 ≤ 11) (w : World) : Calls Tryz.prog 6 #[.int .i64 a0, .int .i64 a1] w fun e w' => e = .returned (.bool true) ∧ Kp [] w w' := by
  obtain rfl : a0 = 12 := by omega
  exact run_bool2 follows_mixed plans_ok sockRoom.sumsG_ok (pN12_ok) (fun i => if i = 0 then 12 else if i = 1 then a1 else 0) (rgOk_cons (⟨Int.le_refl _, Int.le_refl _⟩) (rgOk_cons (⟨h1.1, h1.2⟩) (rgOk_nil))) (.inr ⟨by show 0 ≤ a1; omega, by show a1 < 0 + ((12 : Nat) : Int); omega⟩) (xs := [.int .i64 12, .int .i64 a1]) (by rfl) w

set_option maxRecDepth 1000000 in
theorem pN13_ok : okT2 1 (.ofNat 0) 13 (isB true) (evCall Tryz.prog plans sockRoom.sumsG 100000 6 [.int .i64 (.lit (.ofNat 13)), .int .i64 (.var 1)] (s0 [] [[(.ofNat 13), (.ofNat 0)], [(.ofNat 13), (.ofNat 1)], [(.ofNat 13), (.ofNat 2)], [(.ofNat 13), (.ofNat 3)], [(.ofNat 13), (.ofNat 4)], [(.ofNat 13), (.ofNat 5)], [(.ofNat 13), (.ofNat 6)], [(.ofNat 13), (.ofNat 7)], [(.ofNat 13), (.ofNat 8)], [(.ofNat 13), (.ofNat 9)], [(.ofNat 13), (.ofNat 10)], [(.ofNat 13), (.ofNat 11)], [(.ofNat 13), (.ofNat 12)]] [((.ofNat 13), (.ofNat 13)), ((.ofNat 0), (.ofNat 12))]) finK) [] = true := by kernel_rfl
theorem pN13_any (a0 : Int) (h0 : 13 ≤ a0 ∧ a0 ≤ 13) (a1 : Int) (h1 : 0 ≤ a1 ∧ a1 ≤ 12) (w : World) : Calls Tryz.prog 6 #[.int .i64 a0, .int .i64 a1] w fun e w' => e = .returned (.bool true) ∧ Kp [] w w' := by
  obtain rfl : a0 = 13 := by omega
  exact run_bool2 follows_mixed plans_ok sockRoom.sumsG_ok (pN13_ok) (fun i => if i = 0 then 13 else if i = 1 then a1 else 0) (rgOk_cons (⟨Int.le_refl _, Int.le_refl _⟩) (rgOk_cons (⟨h1.1, h1.2⟩) (rgOk_nil))) (.inr ⟨by show 0 ≤ a1; omega, by show a1 < 0 + ((13 : Nat) : Int); omega⟩) (xs := [.int .i64 13, .int .i64 a1]) (by rfl) w

set_option maxRecDepth 1000000 in
theorem pN14_ok : okT2 1 (.ofNat 0) 14 (isB true) (evCall Tryz.prog plans sockRoom.sumsG 100000 6 [.int .i64 (.lit (.ofNat 14)), .int .i64 (.var 1)] (s0 [] [[(.ofNat 14), (.ofNat 0)], [(.ofNat 14), (.ofNat 1)], [(.ofNat 14), (.ofNat 2)], [(.ofNat 14), (.ofNat 3)], [(.ofNat 14), (.ofNat 4)], [(.ofNat 14), (.ofNat 5)], [(.ofNat 14), (.ofNat 6)], [(.ofNat 14), (.ofNat 7)], [(.ofNat 14), (.ofNat 8)], [(.ofNat 14), (.ofNat 9)], [(.ofNat 14), (.ofNat 10)], [(.ofNat 14), (.ofNat 11)], [(.ofNat 14), (.ofNat 12)], [(.ofNat 14), (.ofNat 13)]] [((.ofNat 14), (.ofNat 14)), ((.ofNat 0), (.ofNat 13))]) finK) [] = true := by kernel_rfl
theorem pN14_any (a0 : Int) (h0 : 14 ≤ a0 ∧ a0 ≤ 14) (a1 : Int) (h1 : 0 ≤ a1 ∧ a1 ≤ 13) (w : World) : Calls Tryz.prog 6 #[.int .i64 a0, .int .i64 a1] w fun e w' => e = .returned (.bool true) ∧ Kp [] w w' := by
  obtain rfl : a0 = 14 := by omega
  exact run_bool2 follows_mixed plans_ok sockRoom.sumsG_ok (pN14_ok) (fun i => if i = 0 then 14 else if i = 1 then a1 else 0) (rgOk_cons (⟨Int.le_refl _, Int.le_refl _⟩) (rgOk_cons (⟨h1.1, h1.2⟩) (rgOk_nil))) (.inr ⟨by show 0 ≤ a1; omega, by show a1 < 0 + ((14 : Nat) : Int); omega⟩) (xs := [.int .i64 14, .int .i64 a1]) (by rfl) w

set_option maxRecDepth 1000000 in
theorem pN15_ok : okT2 1 (.ofNat 0) 15 (isB true) (evCall Tryz.prog plans sockRoom.sumsG 100000 6 [.int .i64 (.lit (.ofNat 15)), .int .i64 (.var 1)] (s0 [] [[(.ofNat 15), (.ofNat 0)], [(.ofNat 15), (.ofNat 1)], [(.ofNat 15), (.ofNat 2)], [(.ofNat 15), (.ofNat 3)], [(.ofNat 15), (.ofNat 4)], [(.ofNat 15), (.ofNat 5)], [(.ofNat 15), (.ofNat 6)], [(.ofNat 15), (.ofNat 7)], [(.ofNat 15), (.ofNat 8)], [(.ofNat 15), (.ofNat 9)], [(.ofNat 15), (.ofNat 10)], [(.ofNat 15), (.ofNat 11)], [(.ofNat 15), (.ofNat 12)], [(.ofNat 15), (.ofNat 13)], [(.ofNat 15), (.ofNat 14)]] [((.ofNat 15), (.ofNat 15)), ((.ofNat 0), (.ofNat 14))]) finK) [] = true := by kernel_rfl
theorem pN15_any (a0 : Int) (h0 : 15 ≤ a0 ∧ a0 ≤ 15) (a1 : Int) (h1 : 0 ≤ a1 ∧ a1 ≤ 14) (w : World) : Calls Tryz.prog 6 #[.int .i64 a0, .int .i64 a1] w fun e w' => e = .returned (.bool true) ∧ Kp [] w w' := by
  obtain rfl : a0 = 15 := by omega
  exact run_bool2 follows_mixed plans_ok sockRoom.sumsG_ok (pN15_ok) (fun i => if i = 0 then 15 else if i = 1 then a1 else 0) (rgOk_cons (⟨Int.le_refl _, Int.le_refl _⟩) (rgOk_cons (⟨h1.1, h1.2⟩) (rgOk_nil))) (.inr ⟨by show 0 ≤ a1; omega, by show a1 < 0 + ((15 : Nat) : Int); omega⟩) (xs := [.int .i64 15, .int .i64 a1]) (by rfl) w

set_option maxRecDepth 1000000 in
theorem pN16_ok : okT2 1 (.ofNat 0) 16 (isB true) (evCall Tryz.prog plans sockRoom.sumsG 100000 6 [.int .i64 (.lit (.ofNat 16)), .int .i64 (.var 1)] (s0 [] [[(.ofNat 16), (.ofNat 0)], [(.ofNat 16), (.ofNat 1)], [(.ofNat 16), (.ofNat 2)], [(.ofNat 16), (.ofNat 3)], [(.ofNat 16), (.ofNat 4)], [(.ofNat 16), (.ofNat 5)], [(.ofNat 16), (.ofNat 6)], [(.ofNat 16), (.ofNat 7)], [(.ofNat 16), (.ofNat 8)], [(.ofNat 16), (.ofNat 9)], [(.ofNat 16), (.ofNat 10)], [(.ofNat 16), (.ofNat 11)], [(.ofNat 16), (.ofNat 12)], [(.ofNat 16), (.ofNat 13)], [(.ofNat 16), (.ofNat 14)], [(.ofNat 16), (.ofNat 15)]] [((.ofNat 16), (.ofNat 16)), ((.ofNat 0), (.ofNat 15))]) finK) [] = true := by kernel_rfl
theorem pN16_any (a0 : Int) (h0 : 16 ≤ a0 ∧ a0 ≤ 16) (a1 : Int) (h1 : 0 ≤ a1 ∧ a1 ≤ 15) (w : World) : Calls Tryz.prog 6 #[.int .i64 a0, .int .i64 a1] w fun e w' => e = .returned (.bool true) ∧ Kp [] w w' := by
  obtain rfl : a0 = 16 := by omega
  exact run_bool2 follows_mixed plans_ok sockRoom.sumsG_ok (pN16_ok) (fun i => if i = 0 then 16 else if i = 1 then a1 else 0) (rgOk_cons (⟨Int.le_refl _, Int.le_refl _⟩) (rgOk_cons (⟨h1.1, h1.2⟩) (rgOk_nil))) (.inr ⟨by show 0 ≤ a1; omega, by show a1 < 0 + ((16 : Nat) : Int); omega⟩) (xs := [.int .i64 16, .int .i64 a1]) (by rfl) w

set_option maxRecDepth 1000000 in
theorem pN17_ok : okT2 1 (.ofNat 0) 17 (isB true) (evCall Tryz.prog plans sockRoom.sumsG 100000 6 [.int .i64 (.lit (.ofNat 17)), .int .i64 (.var 1)] (s0 [] [[(.ofNat 17), (.ofNat 0)], [(.ofNat 17), (.ofNat 1)], [(.ofNat 17), (.ofNat 2)], [(.ofNat 17), (.ofNat 3)], [(.ofNat 17), (.ofNat 4)], [(.ofNat 17), (.ofNat 5)], [(.ofNat 17), (.ofNat 6)], [(.ofNat 17), (.ofNat 7)], [(.ofNat 17), (.ofNat 8)], [(.ofNat 17), (.ofNat 9)], [(.ofNat 17), (.ofNat 10)], [(.ofNat 17), (.ofNat 11)], [(.ofNat 17), (.ofNat 12)], [(.ofNat 17), (.ofNat 13)], [(.ofNat 17), (.ofNat 14)], [(.ofNat 17), (.ofNat 15)], [(.ofNat 17), (.ofNat 16)]] [((.ofNat 17), (.ofNat 17)), ((.ofNat 0), (.ofNat 16))]) finK) [] = true := by kernel_rfl
theorem pN17_any (a0 : Int) (h0 : 17 ≤ a0 ∧ a0 ≤ 17) (a1 : Int) (h1 : 0 ≤ a1 ∧ a1 ≤ 16) (w : World) : Calls Tryz.prog 6 #[.int .i64 a0, .int .i64 a1] w fun e w' => e = .returned (.bool true) ∧ Kp [] w w' := by
  obtain rfl : a0 = 17 := by omega
  exact run_bool2 follows_mixed plans_ok sockRoom.sumsG_ok (pN17_ok) (fun i => if i = 0 then 17 else if i = 1 then a1 else 0) (rgOk_cons (⟨Int.le_refl _, Int.le_refl _⟩) (rgOk_cons (⟨h1.1, h1.2⟩) (rgOk_nil))) (.inr ⟨by show 0 ≤ a1; omega, by show a1 < 0 + ((17 : Nat) : Int); omega⟩) (xs := [.int .i64 17, .int .i64 a1]) (by rfl) w

end Go.Proofs.YtggoagemdhflfaaGreat.sockRoom

/-
  SockRoom: runs, L, H, K0, K1, K2, K3, K4, K5, K6, K7, K8, K9, K10, K11, K12, K13, K14.
-/
import Derived.Test.YtggoagemdhflfaaGreatSgRS
import Derived.Test.YtggoagemdhflfaaGreatRs
import Derived.Test.YtggoagemdhflfaaGreatPlsOk
import Derived.Test.YtggoagemdhflfaaGreatDed
set_option linter.unusedVariables false
set_option linter.unusedSimpArgs false
namespace Go.Proofs.YtggoagemdhflfaaGreat.sockRoom
open Go

set_option maxRecDepth 1000000 in
theorem pL_ok : okT2 0 (.ofNat 0) 0 (isB true) (evCall Tryz.prog plans sockRoom.sumsG 100000 6 [.int .i64 (.var 0), .int .i64 (.var 1)] (s0 [] [[]] [((.negSucc 9223372036854775807), (.negSucc 0)), ((.negSucc 9223372036854775807), (.ofNat 9223372036854775807))]) finK) [] = true := by kernel_rfl
theorem pL_any (a0 : Int) (h0 : (-9223372036854775808) ≤ a0 ∧ a0 ≤ (-1)) (a1 : Int) (h1 : (-9223372036854775808) ≤ a1 ∧ a1 ≤ 9223372036854775807) (w : World) : Calls Tryz.prog 6 #[.int .i64 a0, .int .i64 a1] w fun e w' => e = .returned (.bool true) ∧ Kp [] w w' := by
  exact run_bool2 follows_mixed plans_ok sockRoom.sumsG_ok (pL_ok) (fun i => if i = 0 then a0 else if i = 1 then a1 else 0) (rgOk_cons (⟨h0.1, h0.2⟩) (rgOk_cons (⟨h1.1, h1.2⟩) (rgOk_nil))) (.inl rfl) (xs := [.int .i64 a0, .int .i64 a1]) (by rfl) w

set_option maxRecDepth 1000000 in
theorem pH_ok : okT2 0 (.ofNat 0) 0 (isB true) (evCall Tryz.prog plans sockRoom.sumsG 100000 6 [.int .i64 (.var 0), .int .i64 (.var 1)] (s0 [] [[]] [((.ofNat 101), (.ofNat 9223372036854775807)), ((.negSucc 9223372036854775807), (.ofNat 9223372036854775807))]) finK) [] = true := by kernel_rfl
theorem pH_any (a0 : Int) (h0 : 101 ≤ a0 ∧ a0 ≤ 9223372036854775807) (a1 : Int) (h1 : (-9223372036854775808) ≤ a1 ∧ a1 ≤ 9223372036854775807) (w : World) : Calls Tryz.prog 6 #[.int .i64 a0, .int .i64 a1] w fun e w' => e = .returned (.bool true) ∧ Kp [] w w' := by
  exact run_bool2 follows_mixed plans_ok sockRoom.sumsG_ok (pH_ok) (fun i => if i = 0 then a0 else if i = 1 then a1 else 0) (rgOk_cons (⟨h0.1, h0.2⟩) (rgOk_cons (⟨h1.1, h1.2⟩) (rgOk_nil))) (.inl rfl) (xs := [.int .i64 a0, .int .i64 a1]) (by rfl) w

set_option maxRecDepth 1000000 in
theorem pK0_ok : okT2 0 (.ofNat 0) 0 (isB true) (evCall Tryz.prog plans sockRoom.sumsG 100000 6 [.int .i64 (.lit (.ofNat 0)), .int .i64 (.lit (.ofNat 0))] (s0 [] [[]] [((.ofNat 0), (.ofNat 0)), ((.ofNat 0), (.ofNat 0))]) finK) [] = true := by kernel_rfl
theorem pK0_any (a0 : Int) (h0 : 0 ≤ a0 ∧ a0 ≤ 0) (a1 : Int) (h1 : 0 ≤ a1 ∧ a1 ≤ 0) (w : World) : Calls Tryz.prog 6 #[.int .i64 a0, .int .i64 a1] w fun e w' => e = .returned (.bool true) ∧ Kp [] w w' := by
  obtain rfl : a0 = 0 := by omega
  obtain rfl : a1 = 0 := by omega
  exact run_bool2 follows_mixed plans_ok sockRoom.sumsG_ok (pK0_ok) (fun i => if i = 0 then 0 else if i = 1 then 0 else 0) (rgOk_cons (⟨Int.le_refl _, Int.le_refl _⟩) (rgOk_cons (⟨Int.le_refl _, Int.le_refl _⟩) (rgOk_nil))) (.inl rfl) (xs := [.int .i64 0, .int .i64 0]) (by rfl) w

set_option maxRecDepth 1000000 in
theorem pK1_ok : okT2 0 (.ofNat 0) 0 (isB true) (evCall Tryz.prog plans sockRoom.sumsG 100000 6 [.int .i64 (.var 0), .int .i64 (.lit (.ofNat 1))] (s0 [] [[]] [((.ofNat 0), (.ofNat 1)), ((.ofNat 1), (.ofNat 1))]) finK) [] = true := by kernel_rfl
theorem pK1_any (a0 : Int) (h0 : 0 ≤ a0 ∧ a0 ≤ 1) (a1 : Int) (h1 : 1 ≤ a1 ∧ a1 ≤ 1) (w : World) : Calls Tryz.prog 6 #[.int .i64 a0, .int .i64 a1] w fun e w' => e = .returned (.bool true) ∧ Kp [] w w' := by
  obtain rfl : a1 = 1 := by omega
  exact run_bool2 follows_mixed plans_ok sockRoom.sumsG_ok (pK1_ok) (fun i => if i = 0 then a0 else if i = 1 then 1 else 0) (rgOk_cons (⟨h0.1, h0.2⟩) (rgOk_cons (⟨Int.le_refl _, Int.le_refl _⟩) (rgOk_nil))) (.inl rfl) (xs := [.int .i64 a0, .int .i64 1]) (by rfl) w

set_option maxRecDepth 1000000 in
theorem pK2_ok : okT2 0 (.ofNat 0) 0 (isB true) (evCall Tryz.prog plans sockRoom.sumsG 100000 6 [.int .i64 (.var 0), .int .i64 (.lit (.ofNat 2))] (s0 [] [[]] [((.ofNat 0), (.ofNat 2)), ((.ofNat 2), (.ofNat 2))]) finK) [] = true := by kernel_rfl
theorem pK2_any (a0 : Int) (h0 : 0 ≤ a0 ∧ a0 ≤ 2) (a1 : Int) (h1 : 2 ≤ a1 ∧ a1 ≤ 2) (w : World) : Calls Tryz.prog 6 #[.int .i64 a0, .int .i64 a1] w fun e w' => e = .returned (.bool true) ∧ Kp [] w w' := by
  obtain rfl : a1 = 2 := by omega
  exact run_bool2 follows_mixed plans_ok sockRoom.sumsG_ok (pK2_ok) (fun i => if i = 0 then a0 else if i = 1 then 2 else 0) (rgOk_cons (⟨h0.1, h0.2⟩) (rgOk_cons (⟨Int.le_refl _, Int.le_refl _⟩) (rgOk_nil))) (.inl rfl) (xs := [.int .i64 a0, .int .i64 2]) (by rfl) w

set_option maxRecDepth 1000000 in
theorem pK3_ok : okT2 0 (.ofNat 0) 0 (isB true) (evCall Tryz.prog plans sockRoom.sumsG 100000 6 [.int .i64 (.var 0), .int .i64 (.lit (.ofNat 3))] (s0 [] [[]] [((.ofNat 0), (.ofNat 3)), ((.ofNat 3), (.ofNat 3))]) finK) [] = true := by kernel_rfl
theorem pK3_any (a0 : Int) (h0 : 0 ≤ a0 ∧ a0 ≤ 3) (a1 : Int) (h1 : 3 ≤ a1 ∧ a1 ≤ 3) (w : World) : Calls Tryz.prog 6 #[.int .i64 a0, .int .i64 a1] w fun e w' => e = .returned (.bool true) ∧ Kp [] w w' := by
  obtain rfl : a1 = 3 := by omega
  exact run_bool2 follows_mixed plans_ok sockRoom.sumsG_ok (pK3_ok) (fun i => if i = 0 then a0 else if i = 1 then 3 else 0) (rgOk_cons (⟨h0.1, h0.2⟩) (rgOk_cons (⟨Int.le_refl _, Int.le_refl _⟩) (rgOk_nil))) (.inl rfl) (xs := [.int .i64 a0, .int .i64 3]) (by rfl) w

set_option maxRecDepth 1000000 in
theorem pK4_ok : okT2 0 (.ofNat 0) 0 (isB true) (evCall Tryz.prog plans sockRoom.sumsG 100000 6 [.int .i64 (.var 0), .int .i64 (.lit (.ofNat 4))] (s0 [] [[]] [((.ofNat 0), (.ofNat 4)), ((.ofNat 4), (.ofNat 4))]) finK) [] = true := by kernel_rfl
theorem pK4_any (a0 : Int) (h0 : 0 ≤ a0 ∧ a0 ≤ 4) (a1 : Int) (h1 : 4 ≤ a1 ∧ a1 ≤ 4) (w : World) : Calls Tryz.prog 6 #[.int .i64 a0, .int .i64 a1] w fun e w' => e = .returned (.bool true) ∧ Kp [] w w' := by
  obtain rfl : a1 = 4 := by omega
  exact run_bool2 follows_mixed plans_ok sockRoom.sumsG_ok (pK4_ok) (fun i => if i = 0 then a0 else if i = 1 then 4 else 0) (rgOk_cons (⟨h0.1, h0.2⟩) (rgOk_cons (⟨Int.le_refl _, Int.le_refl _⟩) (rgOk_nil))) (.inl rfl) (xs := [.int .i64 a0, .int .i64 4]) (by rfl) w

set_option maxRecDepth 1000000 in
theorem pK5_ok : okT2 0 (.ofNat 0) 0 (isB true) (evCall Tryz.prog plans sockRoom.sumsG 100000 6 [.int .i64 (.var 0), .int .i64 (.lit (.ofNat 5))] (s0 [] [[]] [((.ofNat 0), (.ofNat 5)), ((.ofNat 5), (.ofNat 5))]) finK) [] = true := by kernel_rfl
theorem pK5_any (a0 : Int) (h0 : 0 ≤ a0 ∧ a0 ≤ 5) (a1 : Int) (h1 : 5 ≤ a1 ∧ a1 ≤ 5) (w : World) : Calls Tryz.prog 6 #[.int .i64 a0, .int .i64 a1] w fun e w' => e = .returned (.bool true) ∧ Kp [] w w' := by
  obtain rfl : a1 = 5 := by omega
  exact run_bool2 follows_mixed plans_ok sockRoom.sumsG_ok (pK5_ok) (fun i => if i = 0 then a0 else if i = 1 then 5 else 0) (rgOk_cons (⟨h0.1, h0.2⟩) (rgOk_cons (⟨Int.le_refl _, Int.le_refl _⟩) (rgOk_nil))) (.inl rfl) (xs := [.int .i64 a0, .int .i64 5]) (by rfl) w

set_option maxRecDepth 1000000 in
theorem pK6_ok : okT2 0 (.ofNat 0) 0 (isB true) (evCall Tryz.prog plans sockRoom.sumsG 100000 6 [.int .i64 (.var 0), .int .i64 (.lit (.ofNat 6))] (s0 [] [[]] [((.ofNat 0), (.ofNat 6)), ((.ofNat 6), (.ofNat 6))]) finK) [] = true := by kernel_rfl
theorem pK6_any (a0 : Int) (h0 : 0 ≤ a0 ∧ a0 ≤ 6) (a1 : Int) (h1 : 6 ≤ a1 ∧ a1 ≤ 6) (w : World) : Calls Tryz.prog 6 #[.int .i64 a0, .int .i64 a1] w fun e w' => e = .returned (.bool true) ∧ Kp [] w w' := by
  obtain rfl : a1 = 6 := by omega
  exact run_bool2 follows_mixed plans_ok sockRoom.sumsG_ok (pK6_ok) (fun i => if i = 0 then a0 else if i = 1 then 6 else 0) (rgOk_cons (⟨h0.1, h0.2⟩) (rgOk_cons (⟨Int.le_refl _, Int.le_refl _⟩) (rgOk_nil))) (.inl rfl) (xs := [.int .i64 a0, .int .i64 6]) (by rfl) w

set_option maxRecDepth 1000000 in
theorem pK7_ok : okT2 0 (.ofNat 0) 0 (isB true) (evCall Tryz.prog plans sockRoom.sumsG 100000 6 [.int .i64 (.var 0), .int .i64 (.lit (.ofNat 7))] (s0 [] [[]] [((.ofNat 0), (.ofNat 7)), ((.ofNat 7), (.ofNat 7))]) finK) [] = true := by kernel_rfl
theorem pK7_any (a0 : Int) (h0 : 0 ≤ a0 ∧ a0 ≤ 7) (a1 : Int) (h1 : 7 ≤ a1 ∧ a1 ≤ 7) (w : World) : Calls Tryz.prog 6 #[.int .i64 a0, .int .i64 a1] w fun e w' => e = .returned (.bool true) ∧ Kp [] w w' := by
  obtain rfl : a1 = 7 := by omega
  exact run_bool2 follows_mixed plans_ok sockRoom.sumsG_ok (pK7_ok) (fun i => if i = 0 then a0 else if i = 1 then 7 else 0) (rgOk_cons (⟨h0.1, h0.2⟩) (rgOk_cons (⟨Int.le_refl _, Int.le_refl _⟩) (rgOk_nil))) (.inl rfl) (xs := [.int .i64 a0, .int .i64 7]) (by rfl) w

set_option maxRecDepth 1000000 in
theorem pK8_ok : okT2 0 (.ofNat 0) 0 (isB true) (evCall Tryz.prog plans sockRoom.sumsG 100000 6 [.int .i64 (.var 0), .int .i64 (.lit (.ofNat 8))] (s0 [] [[]] [((.ofNat 0), (.ofNat 8)), ((.ofNat 8), (.ofNat 8))]) finK) [] = true := by kernel_rfl
theorem pK8_any (a0 : Int) (h0 : 0 ≤ a0 ∧ a0 ≤ 8) (a1 : Int) (h1 : 8 ≤ a1 ∧ a1 ≤ 8) (w : World) : Calls Tryz.prog 6 #[.int .i64 a0, .int .i64 a1] w fun e w' => e = .returned (.bool true) ∧ Kp [] w w' := by
  obtain rfl : a1 = 8 := by omega
  exact run_bool2 follows_mixed plans_ok sockRoom.sumsG_ok (pK8_ok) (fun i => if i = 0 then a0 else if i = 1 then 8 else 0) (rgOk_cons (⟨h0.1, h0.2⟩) (rgOk_cons (⟨Int.le_refl _, Int.le_refl _⟩) (rgOk_nil))) (.inl rfl) (xs := [.int .i64 a0, .int .i64 8]) (by rfl) w

set_option maxRecDepth 1000000 in
theorem pK9_ok : okT2 0 (.ofNat 0) 0 (isB true) (evCall Tryz.prog plans sockRoom.sumsG 100000 6 [.int .i64 (.var 0), .int .i64 (.lit (.ofNat 9))] (s0 [] [[]] [((.ofNat 0), (.ofNat 9)), ((.ofNat 9), (.ofNat 9))]) finK) [] = true := by kernel_rfl
theorem pK9_any (a0 : Int) (h0 : 0 ≤ a0 ∧ a0 ≤ 9) (a1 : Int) (h1 : 9 ≤ a1 ∧ a1 ≤ 9) (w : World) : Calls Tryz.prog 6 #[.int .i64 a0, .int .i64 a1] w fun e w' => e = .returned (.bool true) ∧ Kp [] w w' := by
  obtain rfl : a1 = 9 := by omega
  exact run_bool2 follows_mixed plans_ok sockRoom.sumsG_ok (pK9_ok) (fun i => if i = 0 then a0 else if i = 1 then 9 else 0) (rgOk_cons (⟨h0.1, h0.2⟩) (rgOk_cons (⟨Int.le_refl _, Int.le_refl _⟩) (rgOk_nil))) (.inl rfl) (xs := [.int .i64 a0, .int .i64 9]) (by rfl) w

set_option maxRecDepth 1000000 in
theorem pK10_ok : okT2 0 (.ofNat 0) 0 (isB true) (evCall Tryz.prog plans sockRoom.sumsG 100000 6 [.int .i64 (.var 0), .int .i64 (.lit (.ofNat 10))] (s0 [] [[]] [((.ofNat 0), (.ofNat 10)), ((.ofNat 10), (.ofNat 10))]) finK) [] = true := by kernel_rfl
theorem pK10_any (a0 : Int) (h0 : 0 ≤ a0 ∧ a0 ≤ 10) (a1 : Int) (h1 : 10 ≤ a1 ∧ a1 ≤ 10) (w : World) : Calls Tryz.prog 6 #[.int .i64 a0, .int .i64 a1] w fun e w' => e = .returned (.bool true) ∧ Kp [] w w' := by
  obtain rfl : a1 = 10 := by omega
  exact run_bool2 follows_mixed plans_ok sockRoom.sumsG_ok (pK10_ok) (fun i => if i = 0 then a0 else if i = 1 then 10 else 0) (rgOk_cons (⟨h0.1, h0.2⟩) (rgOk_cons (⟨Int.le_refl _, Int.le_refl _⟩) (rgOk_nil))) (.inl rfl) (xs := [.int .i64 a0, .int .i64 10]) (by rfl) w

set_option maxRecDepth 1000000 in
theorem pK11_ok : okT2 0 (.ofNat 0) 0 (isB true) (evCall Tryz.prog plans sockRoom.sumsG 100000 6 [.int .i64 (.var 0), .int .i64 (.lit (.ofNat 11))] (s0 [] [[]] [((.ofNat 0), (.ofNat 11)), ((.ofNat 11), (.ofNat 11))]) finK) [] = true := by kernel_rfl
theorem pK11_any (a0 : Int) (h0 : 0 ≤ a0 ∧ a0 ≤ 11) (a1 : Int) (h1 : 11 ≤ a1 ∧ a1 ≤ 11) (w : World) : Calls Tryz.prog 6 #[.int .i64 a0, .int .i64 a1] w fun e w' => e = .returned (.bool true) ∧ Kp [] w w' := by
  obtain rfl : a1 = 11 := by omega
  exact run_bool2 follows_mixed plans_ok sockRoom.sumsG_ok (pK11_ok) (fun i => if i = 0 then a0 else if i = 1 then 11 else 0) (rgOk_cons (⟨h0.1, h0.2⟩) (rgOk_cons (⟨Int.le_refl _, Int.le_refl _⟩) (rgOk_nil))) (.inl rfl) (xs := [.int .i64 a0, .int .i64 11]) (by rfl) w

set_option maxRecDepth 1000000 in
theorem pK12_ok : okT2 0 (.ofNat 0) 0 (isB true) (evCall Tryz.prog plans sockRoom.sumsG 100000 6 [.int .i64 (.var 0), .int .i64 (.lit (.ofNat 12))] (s0 [] [[]] [((.ofNat 0), (.ofNat 12)), ((.ofNat 12), (.ofNat 12))]) finK) [] = true := by kernel_rfl
theorem pK12_any (a0 : Int) (h0 : 0 ≤ a0 ∧ a0 ≤ 12) (a1 : Int) (h1 : 12 ≤ a1 ∧ a1 ≤ 12) (w : World) : Calls Tryz.prog 6 #[.int .i64 a0, .int .i64 a1] w fun e w' => e = .returned (.bool true) ∧ Kp [] w w' := by
  obtain rfl : a1 = 12 := by omega
  exact run_bool2 follows_mixed plans_ok sockRoom.sumsG_ok (pK12_ok) (fun i => if i = 0 then a0 else if i = 1 then 12 else 0) (rgOk_cons (⟨h0.1, h0.2⟩) (rgOk_cons (⟨Int.le_refl _, Int.le_refl _⟩) (rgOk_nil))) (.inl rfl) (xs := [.int .i64 a0, .int .i64 12]) (by rfl) w

set_option maxRecDepth 1000000 in
theorem pK13_ok : okT2 0 (.ofNat 0) 0 (isB true) (evCall Tryz.prog plans sockRoom.sumsG 100000 6 [.int .i64 (.var 0), .int .i64 (.lit (.ofNat 13))] (s0 [] [[]] [((.ofNat 0), (.ofNat 13)), ((.ofNat 13), (.ofNat 13))]) finK) [] = true := by kernel_rfl
theorem pK13_any (a0 : Int) (h0 : 0 ≤ a0 ∧ a0 ≤ 13) (a1 : Int) (h1 : 13 ≤ a1 ∧ a1 ≤ 13) (w : World) : Calls Tryz.prog 6 #[.int .i64 a0, .int .i64 a1] w fun e w' => e = .returned (.bool true) ∧ Kp [] w w' := by
  obtain rfl : a1 = 13 := by omega
  exact run_bool2 follows_mixed plans_ok sockRoom.sumsG_ok (pK13_ok) (fun i => if i = 0 then a0 else if i = 1 then 13 else 0) (rgOk_cons (⟨h0.1, h0.2⟩) (rgOk_cons (⟨Int.le_refl _, Int.le_refl _⟩) (rgOk_nil))) (.inl rfl) (xs := [.int .i64 a0, .int .i64 13]) (by rfl) w

set_option maxRecDepth 1000000 in
theorem pK14_ok : okT2 0 (.ofNat 0) 0 (isB true) (evCall Tryz.prog plans sockRoom.sumsG 100000 6 [.int .i64 (.var 0), .int .i64 (.lit (.ofNat 14))] (s0 [] [[]] [((.ofNat 0), (.ofNat 14)), ((.ofNat 14), (.ofNat 14))]) finK) [] = true := by kernel_rfl
theorem pK14_any (a0 : Int) (h0 : 0 ≤ a0 ∧ a0 ≤ 14) (a1 : Int) (h1 : 14 ≤ a1 ∧ a1 ≤ 14) (w : World) : Calls Tryz.prog 6 #[.int .i64 a0, .int .i64 a1] w fun e w' => e = .returned (.bool true) ∧ Kp [] w w' := by
  obtain rfl : a1 = 14 := by omega
  exact run_bool2 follows_mixed plans_ok sockRoom.sumsG_ok (pK14_ok) (fun i => if i = 0 then a0 else if i = 1 then 14 else 0) (rgOk_cons (⟨h0.1, h0.2⟩) (rgOk_cons (⟨Int.le_refl _, Int.le_refl _⟩) (rgOk_nil))) (.inl rfl) (xs := [.int .i64 a0, .int .i64 14]) (by rfl) w

end Go.Proofs.YtggoagemdhflfaaGreat.sockRoom

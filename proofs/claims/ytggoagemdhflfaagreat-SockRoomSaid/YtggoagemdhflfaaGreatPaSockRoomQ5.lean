/-
  SockRoom: runs, K15, K16, K17, K18, K19, K20, K21, K22, K23, K24, K25, K26, K27, K28, K29, K30, K31.
-/
import Derived.Test.YtggoagemdhflfaaGreatSgRS
import Derived.Test.YtggoagemdhflfaaGreatRs
import Derived.Test.YtggoagemdhflfaaGreatPlsOk
import Derived.Test.YtggoagemdhflfaaGreatDed
set_option linter.unusedVariables false
set_option linter.unusedSimpArgs false
namespace Go.Proofs.YtggoagemdhflfaaGreat.sockRoom
open Go

set_option maxRecDepth 1000000 in
theorem pK15_ok : okT2 0 (.ofNat 0) 0 (isB true) (evCall Tryz.prog plans sockRoom.sumsG 100000 6 [.int .i64 (.var 0), .int .i64 (.lit (.ofNat 15))] (s0 [] [[]] [((.ofNat 0), (.ofNat 15)), ((.ofNat 15), (.ofNat 15))]) finK) [] = true := by kernel_rfl
theorem pK15_any (a0 : Int) (h0 : 0 ≤ a0 ∧ a0 ≤ 15) (a1 : Int) (h1 : 15 ≤ a1 ∧ a1 ≤ 15) (w : World) : Calls Tryz.prog 6 #[.int .i64 a0, .int .i64 a1] w fun e w' => e = .returned (.bool true) ∧ Kp [] w w' := by
  obtain rfl : a1 = 15 := by omega
  exact run_bool2 follows_mixed plans_ok sockRoom.sumsG_ok (pK15_ok) (fun i => if i = 0 then a0 else if i = 1 then 15 else 0) (rgOk_cons (⟨h0.1, h0.2⟩) (rgOk_cons (⟨Int.le_refl _, Int.le_refl _⟩) (rgOk_nil))) (.inl rfl) (xs := [.int .i64 a0, .int .i64 15]) (by rfl) w

set_option maxRecDepth 1000000 in
theorem pK16_ok : okT2 0 (.ofNat 0) 0 (isB true) (evCall Tryz.prog plans sockRoom.sumsG 100000 6 [.int .i64 (.var 0), .int .i64 (.lit (.ofNat 16))] (s0 [] [[]] [((.ofNat 0), (.ofNat 16)), ((.ofNat 16), (.ofNat 16))]) finK) [] = true := by kernel_rfl
theorem pK16_any (a0 : Int) (h0 : 0 ≤ a0 ∧ a0 ≤ 16) (a1 : Int) (h1 : 16 ≤ a1 ∧ a1 ≤ 16) (w : World) : Calls Tryz.prog 6 #[.int .i64 a0, .int .i64 a1] w fun e w' => e = .returned (.bool true) ∧ Kp [] w w' := by
  obtain rfl : a1 = 16 := by omega
  exact run_bool2 follows_mixed plans_ok sockRoom.sumsG_ok (pK16_ok) (fun i => if i = 0 then a0 else if i = 1 then 16 else 0) (rgOk_cons (⟨h0.1, h0.2⟩) (rgOk_cons (⟨Int.le_refl _, Int.le_refl _⟩) (rgOk_nil))) (.inl rfl) (xs := [.int .i64 a0, .int .i64 16]) (by rfl) w

set_option maxRecDepth 1000000 in
theorem pK17_ok : okT2 0 (.ofNat 0) 0 (isB true) (evCall Tryz.prog plans sockRoom.sumsG 100000 6 [.int .i64 (.var 0), .int .i64 (.lit (.ofNat 17))] (s0 [] [[]] [((.ofNat 0), (.ofNat 17)), ((.ofNat 17), (.ofNat 17))]) finK) [] = true := by kernel_rfl
theorem pK17_any (a0 : Int) (h0 : 0 ≤ a0 ∧ a0 ≤ 17) (a1 : Int) (h1 : 17 ≤ a1 ∧ a1 ≤ 17) (w : World) : Calls Tryz.prog 6 #[.int .i64 a0, .int .i64 a1] w fun e w' => e = .returned (.bool true) ∧ Kp [] w w' := by
  obtain rfl : a1 = 17 := by omega
  exact run_bool2 follows_mixed plans_ok sockRoom.sumsG_ok (pK17_ok) (fun i => if i = 0 then a0 else if i = 1 then 17 else 0) (rgOk_cons (⟨h0.1, h0.2⟩) (rgOk_cons (⟨Int.le_refl _, Int.le_refl _⟩) (rgOk_nil))) (.inl rfl) (xs := [.int .i64 a0, .int .i64 17]) (by rfl) w

set_option maxRecDepth 1000000 in
theorem pK18_ok : okT2 0 (.ofNat 0) 0 (isB true) (evCall Tryz.prog plans sockRoom.sumsG 100000 6 [.int .i64 (.var 0), .int .i64 (.lit (.ofNat 18))] (s0 [] [[]] [((.ofNat 0), (.ofNat 18)), ((.ofNat 18), (.ofNat 18))]) finK) [] = true := by kernel_rfl
theorem pK18_any (a0 : Int) (h0 : 0 ≤ a0 ∧ a0 ≤ 18) (a1 : Int) (h1 : 18 ≤ a1 ∧ a1 ≤ 18) (w : World) : Calls Tryz.prog 6 #[.int .i64 a0, .int .i64 a1] w fun e w' => e = .returned (.bool true) ∧ Kp [] w w' := by
  obtain rfl : a1 = 18 := by omega
  exact run_bool2 follows_mixed plans_ok sockRoom.sumsG_ok (pK18_ok) (fun i => if i = 0 then a0 else if i = 1 then 18 else 0) (rgOk_cons (⟨h0.1, h0.2⟩) (rgOk_cons (⟨Int.le_refl _, Int.le_refl _⟩) (rgOk_nil))) (.inl rfl) (xs := [.int .i64 a0, .int .i64 18]) (by rfl) w

set_option maxRecDepth 1000000 in
theorem pK19_ok : okT2 0 (.ofNat 0) 0 (isB true) (evCall Tryz.prog plans sockRoom.sumsG 100000 6 [.int .i64 (.var 0), .int .i64 (.lit (.ofNat 19))] (s0 [] [[]] [((.ofNat 0), (.ofNat 19)), ((.ofNat 19), (.ofNat 19))]) finK) [] = true := by kernel_rfl
theorem pK19_any (a0 : Int) (h0 : 0 ≤ a0 ∧ a0 ≤ 19) (a1 : Int) (h1 : 19 ≤ a1 ∧ a1 ≤ 19) (w : World) : Calls Tryz.prog 6 #[.int .i64 a0, .int .i64 a1] w fun e w' => e = .returned (.bool true) ∧ Kp [] w w' := by
  obtain rfl : a1 = 19 := by omega
  exact run_bool2 follows_mixed plans_ok sockRoom.sumsG_ok (pK19_ok) (fun i => if i = 0 then a0 else if i = 1 then 19 else 0) (rgOk_cons (⟨h0.1, h0.2⟩) (rgOk_cons (⟨Int.le_refl _, Int.le_refl _⟩) (rgOk_nil))) (.inl rfl) (xs := [.int .i64 a0, .int .i64 19]) (by rfl) w

set_option maxRecDepth 1000000 in
theorem pK20_ok : okT2 0 (.ofNat 0) 0 (isB true) (evCall Tryz.prog plans sockRoom.sumsG 100000 6 [.int .i64 (.var 0), .int .i64 (.lit (.ofNat 20))] (s0 [] [[]] [((.ofNat 0), (.ofNat 20)), ((.ofNat 20), (.ofNat 20))]) finK) [] = true := by kernel_rfl
theorem pK20_any (a0 : Int) (h0 : 0 ≤ a0 ∧ a0 ≤ 20) (a1 : Int) (h1 : 20 ≤ a1 ∧ a1 ≤ 20) (w : World) : Calls Tryz.prog 6 #[.int .i64 a0, .int .i64 a1] w fun e w' => e = .returned (.bool true) ∧ Kp [] w w' := by
  obtain rfl : a1 = 20 := by omega
  exact run_bool2 follows_mixed plans_ok sockRoom.sumsG_ok (pK20_ok) (fun i => if i = 0 then a0 else if i = 1 then 20 else 0) (rgOk_cons (⟨h0.1, h0.2⟩) (rgOk_cons (⟨Int.le_refl _, Int.le_refl _⟩) (rgOk_nil))) (.inl rfl) (xs := [.int .i64 a0, .int .i64 20]) (by rfl) w

set_option maxRecDepth 1000000 in
theorem pK21_ok : okT2 0 (.ofNat 0) 0 (isB true) (evCall Tryz.prog plans sockRoom.sumsG 100000 6 [.int .i64 (.var 0), .int .i64 (.lit (.ofNat 21))] (s0 [] [[]] [((.ofNat 0), (.ofNat 21)), ((.ofNat 21), (.ofNat 21))]) finK) [] = true := by kernel_rfl
theorem pK21_any (a0 : Int) (h0 : 0 ≤ a0 ∧ a0 ≤ 21) (a1 : Int) (h1 : 21 ≤ a1 ∧ a1 ≤ 21) (w : World) : Calls Tryz.prog 6 #[.int .i64 a0, .int .i64 a1] w fun e w' => e = .returned (.bool true) ∧ Kp [] w w' := by
  obtain rfl : a1 = 21 := by omega
  exact run_bool2 follows_mixed plans_ok sockRoom.sumsG_ok (pK21_ok) (fun i => if i = 0 then a0 else if i = 1 then 21 else 0) (rgOk_cons (⟨h0.1, h0.2⟩) (rgOk_cons (⟨Int.le_refl _, Int.le_refl _⟩) (rgOk_nil))) (.inl rfl) (xs := [.int .i64 a0, .int .i64 21]) (by rfl) w

set_option maxRecDepth 1000000 in
theorem pK22_ok : okT2 0 (.ofNat 0) 0 (isB true) (evCall Tryz.prog plans sockRoom.sumsG 100000 6 [.int .i64 (.var 0), .int .i64 (.lit (.ofNat 22))] (s0 [] [[]] [((.ofNat 0), (.ofNat 22)), ((.ofNat 22), (.ofNat 22))]) finK) [] = true := by kernel_rfl
theorem pK22_any (a0 : Int) (h0 : 0 ≤ a0 ∧ a0 ≤ 22) (a1 : Int) (h1 : 22 ≤ a1 ∧ a1 ≤ 22) (w : World) : Calls Tryz.prog 6 #[.int .i64 a0, .int .i64 a1] w fun e w' => e = .returned (.bool true) ∧ Kp [] w w' := by
  obtain rfl : a1 = 22 := by omega
  exact run_bool2 follows_mixed plans_ok sockRoom.sumsG_ok (pK22_ok) (fun i => if i = 0 then a0 else if i = 1 then 22 else 0) (rgOk_cons (⟨h0.1, h0.2⟩) (rgOk_cons (⟨Int.le_refl _, Int.le_refl _⟩) (rgOk_nil))) (.inl rfl) (xs := [.int .i64 a0, .int .i64 22]) (by rfl) w

set_option maxRecDepth 1000000 in
theorem pK23_ok : okT2 0 (.ofNat 0) 0 (isB true) (evCall Tryz.prog plans sockRoom.sumsG 100000 6 [.int .i64 (.var 0), .int .i64 (.lit (.ofNat 23))] (s0 [] [[]] [((.ofNat 0), (.ofNat 23)), ((.ofNat 23), (.ofNat 23))]) finK) [] = true := by kernel_rfl
theorem pK23_any (a0 : Int) (h0 : 0 ≤ a0 ∧ a0 ≤ 23) (a1 : Int) (h1 : 23 ≤ a1 ∧ a1 ≤ 23) (w : World) : Calls Tryz.prog 6 #[.int .i64 a0, .int .i64 a1] w fun e w' => e = .returned (.bool true) ∧ Kp [] w w' := by
  obtain rfl : a1 = 23 := by omega
  exact run_bool2 follows_mixed plans_ok sockRoom.sumsG_ok (pK23_ok) (fun i => if i = 0 then a0 else if i = 1 then 23 else 0) (rgOk_cons (⟨h0.1, h0.2⟩) (rgOk_cons (⟨Int.le_refl _, Int.le_refl _⟩) (rgOk_nil))) (.inl rfl) (xs := [.int .i64 a0, .int .i64 23]) (by rfl) w

set_option maxRecDepth 1000000 in
theorem pK24_ok : okT2 0 (.ofNat 0) 0 (isB true) (evCall Tryz.prog plans sockRoom.sumsG 100000 6 [.int .i64 (.var 0), .int .i64 (.lit (.ofNat 24))] (s0 [] [[]] [((.ofNat 0), (.ofNat 24)), ((.ofNat 24), (.ofNat 24))]) finK) [] = true := by kernel_rfl
theorem pK24_any (a0 : Int) (h0 : 0 ≤ a0 ∧ a0 ≤ 24) (a1 : Int) (h1 : 24 ≤ a1 ∧ a1 ≤ 24) (w : World) : Calls Tryz.prog 6 #[.int .i64 a0, .int .i64 a1] w fun e w' => e = .returned (.bool true) ∧ Kp [] w w' := by
  obtain rfl : a1 = 24 := by omega
  exact run_bool2 follows_mixed plans_ok sockRoom.sumsG_ok (pK24_ok) (fun i => if i = 0 then a0 else if i = 1 then 24 else 0) (rgOk_cons (⟨h0.1, h0.2⟩) (rgOk_cons (⟨Int.le_refl _, Int.le_refl _⟩) (rgOk_nil))) (.inl rfl) (xs := [.int .i64 a0, .int .i64 24]) (by rfl) w

set_option maxRecDepth 1000000 in
theorem pK25_ok : okT2 0 (.ofNat 0) 0 (isB true) (evCall Tryz.prog plans sockRoom.sumsG 100000 6 [.int .i64 (.var 0), .int .i64 (.lit (.ofNat 25))] (s0 [] [[]] [((.ofNat 0), (.ofNat 25)), ((.ofNat 25), (.ofNat 25))]) finK) [] = true := by kernel_rfl
theorem pK25_any (a0 : Int) (h0 : 0 ≤ a0 ∧ a0 ≤ 25) (a1 : Int) (h1 : 25 ≤ a1 ∧ a1 ≤ 25) (w : World) : Calls Tryz.prog 6 #[.int .i64 a0, .int .i64 a1] w fun e w' => e = .returned (.bool true) ∧ Kp [] w w' := by
  obtain rfl : a1 = 25 := by omega
  exact run_bool2 follows_mixed plans_ok sockRoom.sumsG_ok (pK25_ok) (fun i => if i = 0 then a0 else if i = 1 then 25 else 0) (rgOk_cons (⟨h0.1, h0.2⟩) (rgOk_cons (⟨Int.le_refl _, Int.le_refl _⟩) (rgOk_nil))) (.inl rfl) (xs := [.int .i64 a0, .int .i64 25]) (by rfl) w

set_option maxRecDepth 1000000 in
theorem pK26_ok : okT2 0 (.ofNat 0) 0 (isB true) (evCall Tryz.prog plans sockRoom.sumsG 100000 6 [.int .i64 (.var 0), .int .i64 (.lit (.ofNat 26))] (s0 [] [[]] [((.ofNat 0), (.ofNat 26)), ((.ofNat 26), (.ofNat 26))]) finK) [] = true := by kernel_rfl
theorem pK26_any (a0 : Int) (h0 : 0 ≤ a0 ∧ a0 ≤ 26) (a1 : Int) (h1 : 26 ≤ a1 ∧ a1 ≤ 26) (w : World) : Calls Tryz.prog 6 #[.int .i64 a0, .int .i64 a1] w fun e w' => e = .returned (.bool true) ∧ Kp [] w w' := by
  obtain rfl : a1 = 26 := by omega
  exact run_bool2 follows_mixed plans_ok sockRoom.sumsG_ok (pK26_ok) (fun i => if i = 0 then a0 else if i = 1 then 26 else 0) (rgOk_cons (⟨h0.1, h0.2⟩) (rgOk_cons (⟨Int.le_refl _, Int.le_refl _⟩) (rgOk_nil))) (.inl rfl) (xs := [.int .i64 a0, .int .i64 26]) (by rfl) w

set_option maxRecDepth 1000000 in
theorem pK27_ok : okT2 0 (.ofNat 0) 0 (isB true) (evCall Tryz.prog plans sockRoom.sumsG 100000 6 [.int .i64 (.var 0), .int .i64 (.lit (.ofNat 27))] (s0 [] [[]] [((.ofNat 0), (.ofNat 27)), ((.ofNat 27), (.ofNat 27))]) finK) [] = true := by kernel_rfl
theorem pK27_any (a0 : Int) (h0 : 0 ≤ a0 ∧ a0 ≤ 27) (a1 : Int) (h1 : 27 ≤ a1 ∧ a1 ≤ 27) (w : World) : Calls Tryz.prog 6 #[.int .i64 a0, .int .i64 a1] w fun e w' => e = .returned (.bool true) ∧ Kp [] w w' := by
  obtain rfl : a1 = 27 := by omega
  exact run_bool2 follows_mixed plans_ok sockRoom.sumsG_ok (pK27_ok) (fun i => if i = 0 then a0 else if i = 1 then 27 else 0) (rgOk_cons (⟨h0.1, h0.2⟩) (rgOk_cons (⟨Int.le_refl _, Int.le_refl _⟩) (rgOk_nil))) (.inl rfl) (xs := [.int .i64 a0, .int .i64 27]) (by rfl) w

set_option maxRecDepth 1000000 in
theorem pK28_ok : okT2 0 (.ofNat 0) 0 (isB true) (evCall Tryz.prog plans sockRoom.sumsG 100000 6 [.int .i64 (.var 0), .int .i64 (.lit (.ofNat 28))] (s0 [] [[]] [((.ofNat 0), (.ofNat 28)), ((.ofNat 28), (.ofNat 28))]) finK) [] = true := by kernel_rfl
theorem pK28_any (a0 : Int) (h0 : 0 ≤ a0 ∧ a0 ≤ 28) (a1 : Int) (h1 : 28 ≤ a1 ∧ a1 ≤ 28) (w : World) : Calls Tryz.prog 6 #[.int .i64 a0, .int .i64 a1] w fun e w' => e = .returned (.bool true) ∧ Kp [] w w' := by
  obtain rfl : a1 = 28 := by omega
  exact run_bool2 follows_mixed plans_ok sockRoom.sumsG_ok (pK28_ok) (fun i => if i = 0 then a0 else if i = 1 then 28 else 0) (rgOk_cons (⟨h0.1, h0.2⟩) (rgOk_cons (⟨Int.le_refl _, Int.le_refl _⟩) (rgOk_nil))) (.inl rfl) (xs := [.int .i64 a0, .int .i64 28]) (by rfl) w

set_option maxRecDepth 1000000 in
theorem pK29_ok : okT2 0 (.ofNat 0) 0 (isB true) (evCall Tryz.prog plans sockRoom.sumsG 100000 6 [.int .i64 (.var 0), .int .i64 (.lit (.ofNat 29))] (s0 [] [[]] [((.ofNat 0), (.ofNat 29)), ((.ofNat 29), (.ofNat 29))]) finK) [] = true := by kernel_rfl
theorem pK29_any (a0 : Int) (h0 : 0 ≤ a0 ∧ a0 ≤ 29) (a1 : Int) (h1 : 29 ≤ a1 ∧ a1 ≤ 29) (w : World) : Calls Tryz.prog 6 #[.int .i64 a0, .int .i64 a1] w fun e w' => e = .returned (.bool true) ∧ Kp [] w w' := by
  obtain rfl : a1 = 29 := by omega
  exact run_bool2 follows_mixed plans_ok sockRoom.sumsG_ok (pK29_ok) (fun i => if i = 0 then a0 else if i = 1 then 29 else 0) (rgOk_cons (⟨h0.1, h0.2⟩) (rgOk_cons (⟨Int.le_refl _, Int.le_refl _⟩) (rgOk_nil))) (.inl rfl) (xs := [.int .i64 a0, .int .i64 29]) (by rfl) w

set_option maxRecDepth 1000000 in
theorem pK30_ok : okT2 0 (.ofNat 0) 0 (isB true) (evCall Tryz.prog plans sockRoom.sumsG 100000 6 [.int .i64 (.var 0), .int .i64 (.lit (.ofNat 30))] (s0 [] [[]] [((.ofNat 0), (.ofNat 30)), ((.ofNat 30), (.ofNat 30))]) finK) [] = true := by kernel_rfl
theorem pK30_any (a0 : Int) (h0 : 0 ≤ a0 ∧ a0 ≤ 30) (a1 : Int) (h1 : 30 ≤ a1 ∧ a1 ≤ 30) (w : World) : Calls Tryz.prog 6 #[.int .i64 a0, .int .i64 a1] w fun e w' => e = .returned (.bool true) ∧ Kp [] w w' := by
  obtain rfl : a1 = 30 := by omega
  exact run_bool2 follows_mixed plans_ok sockRoom.sumsG_ok (pK30_ok) (fun i => if i = 0 then a0 else if i = 1 then 30 else 0) (rgOk_cons (⟨h0.1, h0.2⟩) (rgOk_cons (⟨Int.le_refl _, Int.le_refl _⟩) (rgOk_nil))) (.inl rfl) (xs := [.int .i64 a0, .int .i64 30]) (by rfl) w

set_option maxRecDepth 1000000 in
theorem pK31_ok : okT2 0 (.ofNat 0) 0 (isB true) (evCall Tryz.prog plans sockRoom.sumsG 100000 6 [.int .i64 (.var 0), .int .i64 (.lit (.ofNat 31))] (s0 [] [[]] [((.ofNat 0), (.ofNat 31)), ((.ofNat 31), (.ofNat 31))]) finK) [] = true := by kernel_rfl
theorem pK31_any (a0 : Int) (h0 : 0 ≤ a0 ∧ a0 ≤ 31) (a1 : Int) (h1 : 31 ≤ a1 ∧ a1 ≤ 31) (w : World) : Calls Tryz.prog 6 #[.int .i64 a0, .int .i64 a1] w fun e w' => e = .returned (.bool true) ∧ Kp [] w w' := by
  obtain rfl : a1 = 31 := by omega
  exact run_bool2 follows_mixed plans_ok sockRoom.sumsG_ok (pK31_ok) (fun i => if i = 0 then a0 else if i = 1 then 31 else 0) (rgOk_cons (⟨h0.1, h0.2⟩) (rgOk_cons (⟨Int.le_refl _, Int.le_refl _⟩) (rgOk_nil))) (.inl rfl) (xs := [.int .i64 a0, .int .i64 31]) (by rfl) w

end Go.Proofs.YtggoagemdhflfaaGreat.sockRoom

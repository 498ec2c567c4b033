/-
  SockRoom: runs, K32, K33, K34, K35, K36, K37, K38, K39, K40, K41, K42, K43, K44, K45, K46, K47, K48.
-/
import Derived.Test.YtggoagemdhflfaaGreatSgRS
import Derived.Test.YtggoagemdhflfaaGreatRs
import Derived.Test.YtggoagemdhflfaaGreatPlsOk
import Derived.Test.YtggoagemdhflfaaGreatDed
set_option linter.unusedVariables false
set_option linter.unusedSimpArgs false
namespace Go.Proofs.YtggoagemdhflfaaGreat.sockRoom
open Go

set_option maxRecDepth 1000000 in
theorem pK32_ok : okT2 0 (.ofNat 0) 0 (isB true) (evCall Tryz.prog plans sockRoom.sumsG 100000 6 [.int .i64 (.var 0), .int .i64 (.lit (.ofNat 32))] (s0 [] [[]] [((.ofNat 0), (.ofNat 32)), ((.ofNat 32), (.ofNat 32))]) finK) [] = true := by kernel_rfl
theorem pK32_any (a0 : Int) (h0 : 0 ≤ a0 ∧ a0 ≤ 32) (a1 : Int) (h1 : 32 ≤ a1 ∧ a1 ≤ 32) (w : World) : Calls Tryz.prog 6 #[.int .i64 a0, .int .i64 a1] w fun e w' => e = .returned (.bool true) ∧ Kp [] w w' := by
  obtain rfl : a1 = 32 := by omega
  exact run_bool2 follows_mixed plans_ok sockRoom.sumsG_ok (pK32_ok) (fun i => if i = 0 then a0 else if i = 1 then 32 else 0) (rgOk_cons (⟨h0.1, h0.2⟩) (rgOk_cons (⟨Int.le_refl _, Int.le_refl _⟩) (rgOk_nil))) (.inl rfl) (xs := [.int .i64 a0, .int .i64 32]) (by rfl) w

set_option maxRecDepth 1000000 in
theorem pK33_ok : okT2 0 (.ofNat 0) 0 (isB true) (evCall Tryz.prog plans sockRoom.sumsG 100000 6 [.int .i64 (.var 0), .int .i64 (.lit (.ofNat 33))] (s0 [] [[]] [((.ofNat 0), (.ofNat 33)), ((.ofNat 33), (.ofNat 33))]) finK) [] = true := by kernel_rfl
theorem pK33_any (a0 : Int) (h0 : 0 ≤ a0 ∧ a0 ≤ 33) (a1 : Int) (h1 : 33 ≤ a1 ∧ a1 ≤ 33) (w : World) : Calls Tryz.prog 6 #[.int .i64 a0, .int .i64 a1] w fun e w' => e = .returned (.bool true) ∧ Kp [] w w' := by
  obtain rfl : a1 = 33 := by omega
  exact run_bool2 follows_mixed plans_ok sockRoom.sumsG_ok (pK33_ok) (fun i => if i = 0 then a0 else if i = 1 then 33 else 0) (rgOk_cons (⟨h0.1, h0.2⟩) (rgOk_cons (⟨Int.le_refl _, Int.le_refl _⟩) (rgOk_nil))) (.inl rfl) (xs := [.int .i64 a0, .int .i64 33]) (by rfl) w

set_option maxRecDepth 1000000 in
theorem pK34_ok : okT2 0 (.ofNat 0) 0 (isB true) (evCall Tryz.prog plans sockRoom.sumsG 100000 6 [.int .i64 (.var 0), .int .i64 (.lit (.ofNat 34))] (s0 [] [[]] [((.ofNat 0), (.ofNat 34)), ((.ofNat 34), (.ofNat 34))]) finK) [] = true := by kernel_rfl
theorem pK34_any (a0 : Int) (h0 : 0 ≤ a0 ∧ a0 ≤ 34) (a1 : Int) (h1 : 34 ≤ a1 ∧ a1 ≤ 34) (w : World) : Calls Tryz.prog 6 #[.int .i64 a0, .int .i64 a1] w fun e w' => e = .returned (.bool true) ∧ Kp [] w w' := by
  obtain rfl : a1 = 34 := by omega
  exact run_bool2 follows_mixed plans_ok sockRoom.sumsG_ok (pK34_ok) (fun i => if i = 0 then a0 else if i = 1 then 34 else 0) (rgOk_cons (⟨h0.1, h0.2⟩) (rgOk_cons (⟨Int.le_refl _, Int.le_refl _⟩) (rgOk_nil))) (.inl rfl) (xs := [.int .i64 a0, .int .i64 34]) (by rfl) w

set_option maxRecDepth 1000000 in
theorem pK35_ok : okT2 0 (.ofNat 0) 0 (isB true) (evCall Tryz.prog plans sockRoom.sumsG 100000 6 [.int .i64 (.var 0), .int .i64 (.lit (.ofNat 35))] (s0 [] [[]] [((.ofNat 0), (.ofNat 35)), ((.ofNat 35), (.ofNat 35))]) finK) [] = true := by kernel_rfl
theorem pK35_any (a0 : Int) (h0 : 0 ≤ a0 ∧ a0 ≤ 35) (a1 : Int) (h1 : 35 ≤ a1 ∧ a1 ≤ 35) (w : World) : Calls Tryz.prog 6 #[.int .i64 a0, .int .i64 a1] w fun e w' => e = .returned (.bool true) ∧ Kp [] w w' := by
  obtain rfl : a1 = 35 := by omega
  exact run_bool2 follows_mixed plans_ok sockRoom.sumsG_ok (pK35_ok) (fun i => if i = 0 then a0 else if i = 1 then 35 else 0) (rgOk_cons (⟨h0.1, h0.2⟩) (rgOk_cons (⟨Int.le_refl _, Int.le_refl _⟩) (rgOk_nil))) (.inl rfl) (xs := [.int .i64 a0, .int .i64 35]) (by rfl) w

set_option maxRecDepth 1000000 in
theorem pK36_ok : okT2 0 (.ofNat 0) 0 (isB true) (evCall Tryz.prog plans sockRoom.sumsG 100000 6 [.int .i64 (.var 0), .int .i64 (.lit (.ofNat 36))] (s0 [] [[]] [((.ofNat 0), (.ofNat 36)), ((.ofNat 36), (.ofNat 36))]) finK) [] = true := by kernel_rfl
theorem pK36_any (a0 : Int) (h0 : 0 ≤ a0 ∧ a0 ≤ 36) (a1 : Int) (h1 : 36 ≤ a1 ∧ a1 ≤ 36) (w : World) : Calls Tryz.prog 6 #[.int .i64 a0, .int .i64 a1] w fun e w' => e = .returned (.bool true) ∧ Kp [] w w' := by
  obtain rfl : a1 = 36 := by omega
  exact run_bool2 follows_mixed plans_ok sockRoom.sumsG_ok (pK36_ok) (fun i => if i = 0 then a0 else if i = 1 then 36 else 0) (rgOk_cons (⟨h0.1, h0.2⟩) (rgOk_cons (⟨Int.le_refl _, Int.le_refl _⟩) (rgOk_nil))) (.inl rfl) (xs := [.int .i64 a0, .int .i64 36]) (by rfl) w

set_option maxRecDepth 1000000 in
theorem pK37_ok : okT2 0 (.ofNat 0) 0 (isB true) (evCall Tryz.prog plans sockRoom.sumsG 100000 6 [.int .i64 (.var 0), .int .i64 (.lit (.ofNat 37))] (s0 [] [[]] [((.ofNat 0), (.ofNat 37)), ((.ofNat 37), (.ofNat 37))]) finK) [] = true := by kernel_rfl
theorem pK37_any (a0 : Int) (h0 : 0 ≤ a0 ∧ a0 ≤ 37) (a1 : Int) (h1 : 37 ≤ a1 ∧ a1 ≤ 37) (w : World) : Calls Tryz.prog 6 #[.int .i64 a0, .int .i64 a1] w fun e w' => e = .returned (.bool true) ∧ Kp [] w w' := by
  obtain rfl : a1 = 37 := by omega
  exact run_bool2 follows_mixed plans_ok sockRoom.sumsG_ok (pK37_ok) (fun i => if i = 0 then a0 else if i = 1 then 37 else 0) (rgOk_cons (⟨h0.1, h0.2⟩) (rgOk_cons (⟨Int.le_refl _, Int.le_refl _⟩) (rgOk_nil))) (.inl rfl) (xs := [.int .i64 a0, .int .i64 37]) (by rfl) w

set_option maxRecDepth 1000000 in
theorem pK38_ok : okT2 0 (.ofNat 0) 0 (isB true) (evCall Tryz.prog plans sockRoom.sumsG 100000 6 [.int .i64 (.var 0), .int .i64 (.lit (.ofNat 38))] (s0 [] [[]] [((.ofNat 0), (.ofNat 38)), ((.ofNat 38), (.ofNat 38))]) finK) [] = true := by kernel_rfl
theorem pK38_any (a0 : Int) (h0 : 0 ≤ a0 ∧ a0 ≤ 38) (a1 : Int) (h1 : 38 ≤ a1 ∧ a1 ≤ 38) (w : World) : Calls Tryz.prog 6 #[.int .i64 a0, .int .i64 a1] w fun e w' => e = .returned (.bool true) ∧ Kp [] w w' := by
  obtain rfl : a1 = 38 := by omega
  exact run_bool2 follows_mixed plans_ok sockRoom.sumsG_ok (pK38_ok) (fun i => if i = 0 then a0 else if i = 1 then 38 else 0) (rgOk_cons (⟨h0.1, h0.2⟩) (rgOk_cons (⟨Int.le_refl _, Int.le_refl _⟩) (rgOk_nil))) (.inl rfl) (xs := [.int .i64 a0, .int .i64 38]) (by rfl) w

set_option maxRecDepth 1000000 in
theorem pK39_ok : okT2 0 (.ofNat 0) 0 (isB true) (evCall Tryz.prog plans sockRoom.sumsG 100000 6 [.int .i64 (.var 0), .int .i64 (.lit (.ofNat 39))] (s0 [] [[]] [((.ofNat 0), (.ofNat 39)), ((.ofNat 39), (.ofNat 39))]) finK) [] = true := by kernel_rfl
theorem pK39_any (a0 : Int) (h0 : 0 ≤ a0 ∧ a0 ≤ 39) (a1 : Int) (h1 : 39 ≤ a1 ∧ a1 ≤ 39) (w : World) : Calls Tryz.prog 6 #[.int .i64 a0, .int .i64 a1] w fun e w' => e = .returned (.bool true) ∧ Kp [] w w' := by
  obtain rfl : a1 = 39 := by omega
  exact run_bool2 follows_mixed plans_ok sockRoom.sumsG_ok (pK39_ok) (fun i => if i = 0 then a0 else if i = 1 then 39 else 0) (rgOk_cons (⟨h0.1, h0.2⟩) (rgOk_cons (⟨Int.le_refl _, Int.le_refl _⟩) (rgOk_nil))) (.inl rfl) (xs := [.int .i64 a0, .int .i64 39]) (by rfl) w

set_option maxRecDepth 1000000 in
theorem pK40_ok : okT2 0 (.ofNat 0) 0 (isB true) (evCall Tryz.prog plans sockRoom.sumsG 100000 6 [.int .i64 (.var 0), .int .i64 (.lit (.ofNat 40))] (s0 [] [[]] [((.ofNat 0), (.ofNat 40)), ((.ofNat 40), (.ofNat 40))]) finK) [] = true := by kernel_rfl
theorem pK40_any (a0 : Int) (h0 : 0 ≤ a0 ∧ a0 ≤ 40) (a1 : Int) (h1 : 40 ≤ a1 ∧ a1 ≤ 40) (w : World) : Calls Tryz.prog 6 #[.int .i64 a0, .int .i64 a1] w fun e w' => e = .returned (.bool true) ∧ Kp [] w w' := by
  obtain rfl : a1 = 40 := by omega
  exact run_bool2 follows_mixed plans_ok sockRoom.sumsG_ok (pK40_ok) (fun i => if i = 0 then a0 else if i = 1 then 40 else 0) (rgOk_cons (⟨h0.1, h0.2⟩) (rgOk_cons (⟨Int.le_refl _, Int.le_refl _⟩) (rgOk_nil))) (.inl rfl) (xs := [.int .i64 a0, .int .i64 40]) (by rfl) w

set_option maxRecDepth 1000000 in
theorem pK41_ok : okT2 0 (.ofNat 0) 0 (isB true) (evCall Tryz.prog plans sockRoom.sumsG 100000 6 [.int .i64 (.var 0), .int .i64 (.lit (.ofNat 41))] (s0 [] [[]] [((.ofNat 0), (.ofNat 41)), ((.ofNat 41), (.ofNat 41))]) finK) [] = true := by kernel_rfl
theorem pK41_any (a0 : Int) (h0 : 0 ≤ a0 ∧ a0 ≤ 41) (a1 : Int) (h1 : 41 ≤ a1 ∧ a1 ≤ 41) (w : World) : Calls Tryz.prog 6 #[.int .i64 a0, .int .i64 a1] w fun e w' => e = .returned (.bool true) ∧ Kp [] w w' := by
  obtain rfl : a1 = 41 := by omega
  exact run_bool2 follows_mixed plans_ok sockRoom.sumsG_ok (pK41_ok) (fun i => if i = 0 then a0 else if i = 1 then 41 else 0) (rgOk_cons (⟨h0.1, h0.2⟩) (rgOk_cons (⟨Int.le_refl _, Int.le_refl _⟩) (rgOk_nil))) (.inl rfl) (xs := [.int .i64 a0, .int .i64 41]) (by rfl) w

set_option maxRecDepth 1000000 in
theorem pK42_ok : okT2 0 (.ofNat 0) 0 (isB true) (evCall Tryz.prog plans sockRoom.sumsG 100000 6 [.int .i64 (.var 0), .int .i64 (.lit (.ofNat 42))] (s0 [] [[]] [((.ofNat 0), (.ofNat 42)), ((.ofNat 42), (.ofNat 42))]) finK) [] = true := by kernel_rfl
theorem pK42_any (a0 : Int) (h0 : 0 ≤ a0 ∧ a0 ≤ 42) (a1 : Int) (h1 : 42 ≤ a1 ∧ a1 ≤ 42) (w : World) : Calls Tryz.prog 6 #[.int .i64 a0, .int .i64 a1] w fun e w' => e = .returned (.bool true) ∧ Kp [] w w' := by
  obtain rfl : a1 = 42 := by omega
  exact run_bool2 follows_mixed plans_ok sockRoom.sumsG_ok (pK42_ok) (fun i => if i = 0 then a0 else if i = 1 then 42 else 0) (rgOk_cons (⟨h0.1, h0.2⟩) (rgOk_cons (⟨Int.le_refl _, Int.le_refl _⟩) (rgOk_nil))) (.inl rfl) (xs := [.int .i64 a0, .int .i64 42]) (by rfl) w

set_option maxRecDepth 1000000 in
theorem pK43_ok : okT2 0 (.ofNat 0) 0 (isB true) (evCall Tryz.prog plans sockRoom.sumsG 100000 6 [.int .i64 (.var 0), .int .i64 (.lit (.ofNat 43))] (s0 [] [[]] [((.ofNat 0), (.ofNat 43)), ((.ofNat 43), (.ofNat 43))]) finK) [] = true := by kernel_rfl
theorem pK43_any (a0 : Int) (h0 : 0 ≤ a0 ∧ a0 ≤ 43) (a1 : Int) (h1 : 43 ≤ a1 ∧ a1 ≤ 43) (w : World) : Calls Tryz.prog 6 #[.int .i64 a0, .int .i64 a1] w fun e w' => e = .returned (.bool true) ∧ Kp [] w w' := by
  obtain rfl : a1 = 43 := by omega
  exact run_bool2 follows_mixed plans_ok sockRoom.sumsG_ok (pK43_ok) (fun i => if i = 0 then a0 else if i = 1 then 43 else 0) (rgOk_cons (⟨h0.1, h0.2⟩) (rgOk_cons (⟨Int.le_refl _, Int.le_refl _⟩) (rgOk_nil))) (.inl rfl) (xs := [.int .i64 a0, .int .i64 43]) (by rfl) w

set_option maxRecDepth 1000000 in
theorem pK44_ok : okT2 0 (.ofNat 0) 0 (isB true) (evCall Tryz.prog plans sockRoom.sumsG 100000 6 [.int .i64 (.var 0), .int .i64 (.lit (.ofNat 44))] (s0 [] [[]] [((.ofNat 0), (.ofNat 44)), ((.ofNat 44), (.ofNat 44))]) finK) [] = true := by kernel_rfl
theorem pK44_any (a0 : Int) (h0 : 0 ≤ a0 ∧ a0 ≤ 44) (a1 : Int) (h1 : 44 ≤ a1 ∧ a1 ≤ 44) (w : World) : Calls Tryz.prog 6 #[.int .i64 a0, .int .i64 a1] w fun e w' => e = .returned (.bool true) ∧ Kp [] w w' := by
  obtain rfl : a1 = 44 := by omega
  exact run_bool2 follows_mixed plans_ok sockRoom.sumsG_ok (pK44_ok) (fun i => if i = 0 then a0 else if i = 1 then 44 else 0) (rgOk_cons (⟨h0.1, h0.2⟩) (rgOk_cons (⟨Int.le_refl _, Int.le_refl _⟩) (rgOk_nil))) (.inl rfl) (xs := [.int .i64 a0, .int .i64 44]) (by rfl) w

set_option maxRecDepth 1000000 in
theorem pK45_ok : okT2 0 (.ofNat 0) 0 (isB true) (evCall Tryz.prog plans sockRoom.sumsG 100000 6 [.int .i64 (.var 0), .int .i64 (.lit (.ofNat 45))] (s0 [] [[]] [((.ofNat 0), (.ofNat 45)), ((.ofNat 45), (.ofNat 45))]) finK) [] = true := by kernel_rfl
theorem pK45_any (a0 : Int) (h0 : 0 ≤ a0 ∧ a0 ≤ 45) (a1 : Int) (h1 : 45 ≤ a1 ∧ a1 ≤ 45) (w : World) : Calls Tryz.prog 6 #[.int .i64 a0, .int .i64 a1] w fun e w' => e = .returned (.bool true) ∧ Kp [] w w' := by
  obtain rfl : a1 = 45 := by omega
  exact run_bool2 follows_mixed plans_ok sockRoom.sumsG_ok (pK45_ok) (fun i => if i = 0 then a0 else if i = 1 then 45 else 0) (rgOk_cons (⟨h0.1, h0.2⟩) (rgOk_cons (⟨Int.le_refl _, Int.le_refl _⟩) (rgOk_nil))) (.inl rfl) (xs := [.int .i64 a0, .int .i64 45]) (by rfl) w

set_option maxRecDepth 1000000 in
theorem pK46_ok : okT2 0 (.ofNat 0) 0 (isB true) (evCall Tryz.prog plans sockRoom.sumsG 100000 6 [.int .i64 (.var 0), .int .i64 (.lit (.ofNat 46))] (s0 [] [[]] [((.ofNat 0), (.ofNat 46)), ((.ofNat 46), (.ofNat 46))]) finK) [] = true := by kernel_rfl
theorem pK46_any (a0 : Int) (h0 : 0 ≤ a0 ∧ a0 ≤ 46) (a1 : Int) (h1 : 46 ≤ a1 ∧ a1 ≤ 46) (w : World) : Calls Tryz.prog 6 #[.int .i64 a0, .int .i64 a1] w fun e w' => e = .returned (.bool true) ∧ Kp [] w w' := by
  obtain rfl : a1 = 46 := by omega
  exact run_bool2 follows_mixed plans_ok sockRoom.sumsG_ok (pK46_ok) (fun i => if i = 0 then a0 else if i = 1 then 46 else 0) (rgOk_cons (⟨h0.1, h0.2⟩) (rgOk_cons (⟨Int.le_refl _, Int.le_refl _⟩) (rgOk_nil))) (.inl rfl) (xs := [.int .i64 a0, .int .i64 46]) (by rfl) w

set_option maxRecDepth 1000000 in
theorem pK47_ok : okT2 0 (.ofNat 0) 0 (isB true) (evCall Tryz.prog plans sockRoom.sumsG 100000 6 [.int .i64 (.var 0), .int .i64 (.lit (.ofNat 47))] (s0 [] [[]] [((.ofNat 0), (.ofNat 47)), ((.ofNat 47), (.ofNat 47))]) finK) [] = true := by kernel_rfl
theorem pK47_any (a0 : Int) (h0 : 0 ≤ a0 ∧ a0 ≤ 47) (a1 : Int) (h1 : 47 ≤ a1 ∧ a1 ≤ 47) (w : World) : Calls Tryz.prog 6 #[.int .i64 a0, .int .i64 a1] w fun e w' => e = .returned (.bool true) ∧ Kp [] w w' := by
  obtain rfl : a1 = 47 := by omega
  exact run_bool2 follows_mixed plans_ok sockRoom.sumsG_ok (pK47_ok) (fun i => if i = 0 then a0 else if i = 1 then 47 else 0) (rgOk_cons (⟨h0.1, h0.2⟩) (rgOk_cons (⟨Int.le_refl _, Int.le_refl _⟩) (rgOk_nil))) (.inl rfl) (xs := [.int .i64 a0, .int .i64 47]) (by rfl) w

set_option maxRecDepth 1000000 in
theorem pK48_ok : okT2 0 (.ofNat 0) 0 (isB true) (evCall Tryz.prog plans sockRoom.sumsG 100000 6 [.int .i64 (.var 0), .int .i64 (.lit (.ofNat 48))] (s0 [] [[]] [((.ofNat 0), (.ofNat 48)), ((.ofNat 48), (.ofNat 48))]) finK) [] = true := by kernel_rfl
theorem pK48_any (a0 : Int) (h0 : 0 ≤ a0 ∧ a0 ≤ 48) (a1 : Int) (h1 : 48 ≤ a1 ∧ a1 ≤ 48) (w : World) : Calls Tryz.prog 6 #[.int .i64 a0, .int .i64 a1] w fun e w' => e = .returned (.bool true) ∧ Kp [] w w' := by
  obtain rfl : a1 = 48 := by omega
  exact run_bool2 follows_mixed plans_ok sockRoom.sumsG_ok (pK48_ok) (fun i => if i = 0 then a0 else if i = 1 then 48 else 0) (rgOk_cons (⟨h0.1, h0.2⟩) (rgOk_cons (⟨Int.le_refl _, Int.le_refl _⟩) (rgOk_nil))) (.inl rfl) (xs := [.int .i64 a0, .int .i64 48]) (by rfl) w

end Go.Proofs.YtggoagemdhflfaaGreat.sockRoom

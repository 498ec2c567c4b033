/-
  HubDeaf: runs, N20x14, N20x15, N20x16, N20x17, N20x18, N20x19, N20x20, L, H, KL, KH, K1, K2, K3, K4, K5, K6, K7, K8, K9, K10, K11, K12, K13, K14, K15, K16, K17, K18, K19, K20.
-/
import Derived.Test.YtlmpmmcefdhgmaaGreatSgDS
import Derived.Test.YtlmpmmcefdhgmaaGreatRs
import Derived.Test.YtlmpmmcefdhgmaaGreatPlsOk
set_option linter.unusedVariables false
set_option linter.unusedSimpArgs false
namespace Go.Proofs.YtlmpmmcefdhgmaaGreat.hubDeaf
open Go

def pN20x14_dead : List (List (SB × Bool)) := []
noncomputable def pN20x14_tree : R := fillT endT []
set_option maxRecDepth 1000000 in
theorem pN20x14_run : evCall Tryz.prog plans hubDeaf.sumsG 100000 6 [.int .i64 (.lit (.ofNat 20)), .int .i64 (.lit (.ofNat 14))] (s0 [] [[]] [((.ofNat 20), (.ofNat 20)), ((.ofNat 14), (.ofNat 14))]) finK = pN20x14_tree := by kernel_rfl
set_option maxRecDepth 1000000 in
theorem pN20x14_ok : okTree pN20x14_tree true [] pN20x14_dead = true := by kernel_rfl
theorem pN20x14_any (a0 : Int) (h0 : 20 ≤ a0 ∧ a0 ≤ 20) (a1 : Int) (h1 : 14 ≤ a1 ∧ a1 ≤ 14) (w : World) : Calls Tryz.prog 6 #[.int .i64 a0, .int .i64 a1] w fun e w' => e = .returned (.bool true) ∧ Kp [] w w' := by
  obtain rfl : a0 = 20 := by omega
  obtain rfl : a1 = 14 := by omega
  exact run_bool (ds := pN20x14_dead) follows_mixed plans_ok hubDeaf.sumsG_ok (pN20x14_run) pN20x14_ok (fun i => if i = 0 then 20 else if i = 1 then 14 else 0) (fun x hx => by cases hx) (rgOk_cons (⟨Int.le_refl _, Int.le_refl _⟩) (rgOk_cons (⟨Int.le_refl _, Int.le_refl _⟩) (rgOk_nil))) (fun d hd => by simp [pN20x14_dead] at hd) (xs := [.int .i64 20, .int .i64 14]) (by rfl) w

def pN20x15_dead : List (List (SB × Bool)) := []
noncomputable def pN20x15_tree : R := fillT endT []
set_option maxRecDepth 1000000 in
theorem pN20x15_run : evCall Tryz.prog plans hubDeaf.sumsG 100000 6 [.int .i64 (.lit (.ofNat 20)), .int .i64 (.lit (.ofNat 15))] (s0 [] [[]] [((.ofNat 20), (.ofNat 20)), ((.ofNat 15), (.ofNat 15))]) finK = pN20x15_tree := by kernel_rfl
set_option maxRecDepth 1000000 in
theorem pN20x15_ok : okTree pN20x15_tree true [] pN20x15_dead = true := by kernel_rfl
theorem pN20x15_any (a0 : Int) (h0 : 20 ≤ a0 ∧ a0 ≤ 20) (a1 : Int) (h1 : 15 ≤ a1 ∧ a1 ≤ 15) (w : World) : Calls Tryz.prog 6 #[.int .i64 a0, .int .i64 a1] w fun e w' => e = .returned (.bool true) ∧ Kp [] w w' := by
  obtain rfl : a0 = 20 := by omega
  obtain rfl : a1 = 15 := by omega
  exact run_bool (ds := pN20x15_dead) follows_mixed plans_ok hubDeaf.sumsG_ok (pN20x15_run) pN20x15_ok (fun i => if i = 0 then 20 else if i = 1 then 15 else 0) (fun x hx => by cases hx) (rgOk_cons (⟨Int.le_refl _, Int.le_refl _⟩) (rgOk_cons (⟨Int.le_refl _, Int.le_refl _⟩) (rgOk_nil))) (fun d hd => by simp [pN20x15_dead] at hd) (xs := [.int .i64 20, .int .i64 15]) (by rfl) w

def pN20x16_dead : List (List (SB × Bool)) := []
noncomputable def pN20x16_tree : R := fillT endT []
set_option maxRecDepth 1000000 in
theorem pN20x16_run : evCall Tryz.prog plans hubDeaf.sumsG 100000 6 [.int .i64 (.lit (.ofNat 20)), .int .i64 (.lit (.ofNat 16))] (s0 [] [[]] [((.ofNat 20), (.ofNat 20)), ((.ofNat 16), (.ofNat 16))]) finK = pN20x16_tree := by kernel_rfl
set_option maxRecDepth 1000000 in
theorem pN20x16_ok : okTree pN20x16_tree true [] pN20x16_dead = true := by kernel_rfl
theorem pN20x16_any (a0 : Int) (h0 : 20 ≤ a0 ∧ a0 ≤ 20) (a1 : Int) (h1 : 16 ≤ a1 ∧ a1 ≤ 16) (w : World) : Calls Tryz.prog 6 #[.int .i64 a0, .int .i64 a1] w fun e w' => e = .returned (.bool true) ∧ Kp [] w w' := by
  obtain rfl : a0 = 20 := by omega
  obtain rfl : a1 = 16 := by omega
  exact run_bool (ds := pN20x16_dead) follows_mixed plans_ok hubDeaf.sumsG_ok (pN20x16_run) pN20x16_ok (fun i => if i = 0 then 20 else if i = 1 then 16 else 0) (fun x hx => by cases hx) (rgOk_cons (⟨Int.le_refl _, Int.le_refl _⟩) (rgOk_cons (⟨Int.le_refl _, Int.le_refl _⟩) (rgOk_nil))) (fun d hd => by simp [pN20x16_dead] at hd) (xs := [.int .i64 20, .int .i64 16]) (by rfl) w

def pN20x17_dead : List (List (SB × Bool)) := []
noncomputable def pN20x17_tree : R := fillT endT []
set_option maxRecDepth 1000000 in
theorem pN20x17_run : evCall Tryz.prog plans hubDeaf.sumsG 100000 6 [.int .i64 (.lit (.ofNat 20)), .int .i64 (.lit (.ofNat 17))] (s0 [] [[]] [((.ofNat 20), (.ofNat 20)), ((.ofNat 17), (.ofNat 17))]) finK = pN20x17_tree := by kernel_rfl
set_option maxRecDepth 1000000 in
theorem pN20x17_ok : okTree pN20x17_tree true [] pN20x17_dead = true := by kernel_rfl
theorem pN20x17_any (a0 : Int) (h0 : 20 ≤ a0 ∧ a0 ≤ 20) (a1 : Int) (h1 : 17 ≤ a1 ∧ a1 ≤ 17) (w : World) : Calls Tryz.prog 6 #[.int .i64 a0, .int .i64 a1] w fun e w' => e = .returned (.bool true) ∧ Kp [] w w' := by
  obtain rfl : a0 = 20 := by omega
  obtain rfl : a1 = 17 := by omega
  exact run_bool (ds := pN20x17_dead) follows_mixed plans_ok hubDeaf.sumsG_ok (pN20x17_run) pN20x17_ok (fun i => if i = 0 then 20 else if i = 1 then 17 else 0) (fun x hx => by cases hx) (rgOk_cons (⟨Int.le_refl _, Int.le_refl _⟩) (rgOk_cons (⟨Int.le_refl _, Int.le_refl _⟩) (rgOk_nil))) (fun d hd => by simp [pN20x17_dead] at hd) (xs := [.int .i64 20, .int .i64 17]) (by rfl) w

def pN20x18_dead : List (List (SB × Bool)) := []
noncomputable def pN20x18_tree : R := fillT endT []
set_option maxRecDepth 1000000 in
theorem pN20x18_run : evCall Tryz.prog plans hubDeaf.sumsG 100000 6 [.int .i64 (.lit (.ofNat 20)), .int .i64 (.lit (.ofNat 18))] (s0 [] [[]] [((.ofNat 20), (.ofNat 20)), ((.ofNat 18), (.ofNat 18))]) finK = pN20x18_tree := by kernel_rfl
set_option maxRecDepth 1000000 in
theorem pN20x18_ok : okTree pN20x18_tree true [] pN20x18_dead = true := by kernel_rfl
theorem pN20x18_any (a0 : Int) (h0 : 20 ≤ a0 ∧ a0 ≤ 20) (a1 : Int) (h1 : 18 ≤ a1 ∧ a1 ≤ 18) (w : World) : Calls Tryz.prog 6 #[.int .i64 a0, .int .i64 a1] w fun e w' => e = .returned (.bool true) ∧ Kp [] w w' := by
  obtain rfl : a0 = 20 := by omega
  obtain rfl : a1 = 18 := by omega
  exact run_bool (ds := pN20x18_dead) follows_mixed plans_ok hubDeaf.sumsG_ok (pN20x18_run) pN20x18_ok (fun i => if i = 0 then 20 else if i = 1 then 18 else 0) (fun x hx => by cases hx) (rgOk_cons (⟨Int.le_refl _, Int.le_refl _⟩) (rgOk_cons (⟨Int.le_refl _, Int.le_refl _⟩) (rgOk_nil))) (fun d hd => by simp [pN20x18_dead] at hd) (xs := [.int .i64 20, .int .i64 18]) (by rfl) w

def pN20x19_dead : List (List (SB × Bool)) := []
noncomputable def pN20x19_tree : R := fillT endT []
set_option maxRecDepth 1000000 in
theorem pN20x19_run : evCall Tryz.prog plans hubDeaf.sumsG 100000 6 [.int .i64 (.lit (.ofNat 20)), .int .i64 (.lit (.ofNat 19))] (s0 [] [[]] [((.ofNat 20), (.ofNat 20)), ((.ofNat 19), (.ofNat 19))]) finK = pN20x19_tree := by kernel_rfl
set_option maxRecDepth 1000000 in
theorem pN20x19_ok : okTree pN20x19_tree true [] pN20x19_dead = true := by kernel_rfl
theorem pN20x19_any (a0 : Int) (h0 : 20 ≤ a0 ∧ a0 ≤ 20) (a1 : Int) (h1 : 19 ≤ a1 ∧ a1 ≤ 19) (w : World) : Calls Tryz.prog 6 #[.int .i64 a0, .int .i64 a1] w fun e w' => e = .returned (.bool true) ∧ Kp [] w w' := by
  obtain rfl : a0 = 20 := by omega
  obtain rfl : a1 = 19 := by omega
  exact run_bool (ds := pN20x19_dead) follows_mixed plans_ok hubDeaf.sumsG_ok (pN20x19_run) pN20x19_ok (fun i => if i = 0 then 20 else if i = 1 then 19 else 0) (fun x hx => by cases hx) (rgOk_cons (⟨Int.le_refl _, Int.le_refl _⟩) (rgOk_cons (⟨Int.le_refl _, Int.le_refl _⟩) (rgOk_nil))) (fun d hd => by simp [pN20x19_dead] at hd) (xs := [.int .i64 20, .int .i64 19]) (by rfl) w

def pN20x20_dead : List (List (SB × Bool)) := []
noncomputable def pN20x20_tree : R := fillT endT []
set_option maxRecDepth 1000000 in
theorem pN20x20_run : evCall Tryz.prog plans hubDeaf.sumsG 100000 6 [.int .i64 (.lit (.ofNat 20)), .int .i64 (.lit (.ofNat 20))] (s0 [] [[]] [((.ofNat 20), (.ofNat 20)), ((.ofNat 20), (.ofNat 20))]) finK = pN20x20_tree := by kernel_rfl
set_option maxRecDepth 1000000 in
theorem pN20x20_ok : okTree pN20x20_tree true [] pN20x20_dead = true := by kernel_rfl
theorem pN20x20_any (a0 : Int) (h0 : 20 ≤ a0 ∧ a0 ≤ 20) (a1 : Int) (h1 : 20 ≤ a1 ∧ a1 ≤ 20) (w : World) : Calls Tryz.prog 6 #[.int .i64 a0, .int .i64 a1] w fun e w' => e = .returned (.bool true) ∧ Kp [] w w' := by
  obtain rfl : a0 = 20 := by omega
  obtain rfl : a1 = 20 := by omega
  exact run_bool (ds := pN20x20_dead) follows_mixed plans_ok hubDeaf.sumsG_ok (pN20x20_run) pN20x20_ok (fun i => if i = 0 then 20 else if i = 1 then 20 else 0) (fun x hx => by cases hx) (rgOk_cons (⟨Int.le_refl _, Int.le_refl _⟩) (rgOk_cons (⟨Int.le_refl _, Int.le_refl _⟩) (rgOk_nil))) (fun d hd => by simp [pN20x20_dead] at hd) (xs := [.int .i64 20, .int .i64 20]) (by rfl) w

def pL_dead : List (List (SB × Bool)) := []
noncomputable def pL_tree : R := fillT endT []
set_option maxRecDepth 1000000 in
theorem pL_run : evCall Tryz.prog plans hubDeaf.sumsG 100000 6 [.int .i64 (.var 0), .int .i64 (.var 1)] (s0 [] [[]] [((.negSucc 9223372036854775807), (.negSucc 0)), ((.negSucc 9223372036854775807), (.ofNat 9223372036854775807))]) finK = pL_tree := by kernel_rfl
set_option maxRecDepth 1000000 in
theorem pL_ok : okTree pL_tree true [] pL_dead = true := by kernel_rfl
theorem pL_any (a0 : Int) (h0 : (-9223372036854775808) ≤ a0 ∧ a0 ≤ (-1)) (a1 : Int) (h1 : (-9223372036854775808) ≤ a1 ∧ a1 ≤ 9223372036854775807) (w : World) : Calls Tryz.prog 6 #[.int .i64 a0, .int .i64 a1] w fun e w' => e = .returned (.bool true) ∧ Kp [] w w' := by
  exact run_bool (ds := pL_dead) follows_mixed plans_ok hubDeaf.sumsG_ok (pL_run) pL_ok (fun i => if i = 0 then a0 else if i = 1 then a1 else 0) (fun x hx => by cases hx) (rgOk_cons (⟨h0.1, h0.2⟩) (rgOk_cons (⟨h1.1, h1.2⟩) (rgOk_nil))) (fun d hd => by simp [pL_dead] at hd) (xs := [.int .i64 a0, .int .i64 a1]) (by rfl) w

def pH_dead : List (List (SB × Bool)) := []
noncomputable def pH_tree : R := fillT endT []
set_option maxRecDepth 1000000 in
theorem pH_run : evCall Tryz.prog plans hubDeaf.sumsG 100000 6 [.int .i64 (.var 0), .int .i64 (.var 1)] (s0 [] [[]] [((.ofNat 21), (.ofNat 9223372036854775807)), ((.negSucc 9223372036854775807), (.ofNat 9223372036854775807))]) finK = pH_tree := by kernel_rfl
set_option maxRecDepth 1000000 in
theorem pH_ok : okTree pH_tree true [] pH_dead = true := by kernel_rfl
theorem pH_any (a0 : Int) (h0 : 21 ≤ a0 ∧ a0 ≤ 9223372036854775807) (a1 : Int) (h1 : (-9223372036854775808) ≤ a1 ∧ a1 ≤ 9223372036854775807) (w : World) : Calls Tryz.prog 6 #[.int .i64 a0, .int .i64 a1] w fun e w' => e = .returned (.bool true) ∧ Kp [] w w' := by
  exact run_bool (ds := pH_dead) follows_mixed plans_ok hubDeaf.sumsG_ok (pH_run) pH_ok (fun i => if i = 0 then a0 else if i = 1 then a1 else 0) (fun x hx => by cases hx) (rgOk_cons (⟨h0.1, h0.2⟩) (rgOk_cons (⟨h1.1, h1.2⟩) (rgOk_nil))) (fun d hd => by simp [pH_dead] at hd) (xs := [.int .i64 a0, .int .i64 a1]) (by rfl) w

def pKL_dead : List (List (SB × Bool)) := []
noncomputable def pKL_tree : R := fillT endT []
set_option maxRecDepth 1000000 in
theorem pKL_run : evCall Tryz.prog plans hubDeaf.sumsG 100000 6 [.int .i64 (.var 0), .int .i64 (.var 1)] (s0 [] [[]] [((.ofNat 0), (.ofNat 20)), ((.negSucc 9223372036854775807), (.negSucc 0))]) finK = pKL_tree := by kernel_rfl
set_option maxRecDepth 1000000 in
theorem pKL_ok : okTree pKL_tree true [] pKL_dead = true := by kernel_rfl
theorem pKL_any (a0 : Int) (h0 : 0 ≤ a0 ∧ a0 ≤ 20) (a1 : Int) (h1 : (-9223372036854775808) ≤ a1 ∧ a1 ≤ (-1)) (w : World) : Calls Tryz.prog 6 #[.int .i64 a0, .int .i64 a1] w fun e w' => e = .returned (.bool true) ∧ Kp [] w w' := by
  exact run_bool (ds := pKL_dead) follows_mixed plans_ok hubDeaf.sumsG_ok (pKL_run) pKL_ok (fun i => if i = 0 then a0 else if i = 1 then a1 else 0) (fun x hx => by cases hx) (rgOk_cons (⟨h0.1, h0.2⟩) (rgOk_cons (⟨h1.1, h1.2⟩) (rgOk_nil))) (fun d hd => by simp [pKL_dead] at hd) (xs := [.int .i64 a0, .int .i64 a1]) (by rfl) w

def pKH_dead : List (List (SB × Bool)) := []
noncomputable def pKH_tree : R := fillT endT []
set_option maxRecDepth 1000000 in
theorem pKH_run : evCall Tryz.prog plans hubDeaf.sumsG 100000 6 [.int .i64 (.var 0), .int .i64 (.var 1)] (s0 [] [[]] [((.ofNat 0), (.ofNat 20)), ((.ofNat 21), (.ofNat 9223372036854775807))]) finK = pKH_tree := by kernel_rfl
set_option maxRecDepth 1000000 in
theorem pKH_ok : okTree pKH_tree true [] pKH_dead = true := by kernel_rfl
theorem pKH_any (a0 : Int) (h0 : 0 ≤ a0 ∧ a0 ≤ 20) (a1 : Int) (h1 : 21 ≤ a1 ∧ a1 ≤ 9223372036854775807) (w : World) : Calls Tryz.prog 6 #[.int .i64 a0, .int .i64 a1] w fun e w' => e = .returned (.bool true) ∧ Kp [] w w' := by
  exact run_bool (ds := pKH_dead) follows_mixed plans_ok hubDeaf.sumsG_ok (pKH_run) pKH_ok (fun i => if i = 0 then a0 else if i = 1 then a1 else 0) (fun x hx => by cases hx) (rgOk_cons (⟨h0.1, h0.2⟩) (rgOk_cons (⟨h1.1, h1.2⟩) (rgOk_nil))) (fun d hd => by simp [pKH_dead] at hd) (xs := [.int .i64 a0, .int .i64 a1]) (by rfl) w

def pK1_dead : List (List (SB × Bool)) := []
noncomputable def pK1_tree : R := fillT endT []
set_option maxRecDepth 1000000 in
theorem pK1_run : evCall Tryz.prog plans hubDeaf.sumsG 100000 6 [.int .i64 (.lit (.ofNat 0)), .int .i64 (.lit (.ofNat 1))] (s0 [] [[]] [((.ofNat 0), (.ofNat 0)), ((.ofNat 1), (.ofNat 1))]) finK = pK1_tree := by kernel_rfl
set_option maxRecDepth 1000000 in
theorem pK1_ok : okTree pK1_tree true [] pK1_dead = true := by kernel_rfl
theorem pK1_any (a0 : Int) (h0 : 0 ≤ a0 ∧ a0 ≤ 0) (a1 : Int) (h1 : 1 ≤ a1 ∧ a1 ≤ 1) (w : World) : Calls Tryz.prog 6 #[.int .i64 a0, .int .i64 a1] w fun e w' => e = .returned (.bool true) ∧ Kp [] w w' := by
  obtain rfl : a0 = 0 := by omega
  obtain rfl : a1 = 1 := by omega
  exact run_bool (ds := pK1_dead) follows_mixed plans_ok hubDeaf.sumsG_ok (pK1_run) pK1_ok (fun i => if i = 0 then 0 else if i = 1 then 1 else 0) (fun x hx => by cases hx) (rgOk_cons (⟨Int.le_refl _, Int.le_refl _⟩) (rgOk_cons (⟨Int.le_refl _, Int.le_refl _⟩) (rgOk_nil))) (fun d hd => by simp [pK1_dead] at hd) (xs := [.int .i64 0, .int .i64 1]) (by rfl) w

def pK2_dead : List (List (SB × Bool)) := []
noncomputable def pK2_tree : R := fillT endT []
set_option maxRecDepth 1000000 in
theorem pK2_run : evCall Tryz.prog plans hubDeaf.sumsG 100000 6 [.int .i64 (.var 0), .int .i64 (.lit (.ofNat 2))] (s0 [] [[]] [((.ofNat 0), (.ofNat 1)), ((.ofNat 2), (.ofNat 2))]) finK = pK2_tree := by kernel_rfl
set_option maxRecDepth 1000000 in
theorem pK2_ok : okTree pK2_tree true [] pK2_dead = true := by kernel_rfl
theorem pK2_any (a0 : Int) (h0 : 0 ≤ a0 ∧ a0 ≤ 1) (a1 : Int) (h1 : 2 ≤ a1 ∧ a1 ≤ 2) (w : World) : Calls Tryz.prog 6 #[.int .i64 a0, .int .i64 a1] w fun e w' => e = .returned (.bool true) ∧ Kp [] w w' := by
  obtain rfl : a1 = 2 := by omega
  exact run_bool (ds := pK2_dead) follows_mixed plans_ok hubDeaf.sumsG_ok (pK2_run) pK2_ok (fun i => if i = 0 then a0 else if i = 1 then 2 else 0) (fun x hx => by cases hx) (rgOk_cons (⟨h0.1, h0.2⟩) (rgOk_cons (⟨Int.le_refl _, Int.le_refl _⟩) (rgOk_nil))) (fun d hd => by simp [pK2_dead] at hd) (xs := [.int .i64 a0, .int .i64 2]) (by rfl) w

def pK3_dead : List (List (SB × Bool)) := []
noncomputable def pK3_tree : R := fillT endT []
set_option maxRecDepth 1000000 in
theorem pK3_run : evCall Tryz.prog plans hubDeaf.sumsG 100000 6 [.int .i64 (.var 0), .int .i64 (.lit (.ofNat 3))] (s0 [] [[]] [((.ofNat 0), (.ofNat 2)), ((.ofNat 3), (.ofNat 3))]) finK = pK3_tree := by kernel_rfl
set_option maxRecDepth 1000000 in
theorem pK3_ok : okTree pK3_tree true [] pK3_dead = true := by kernel_rfl
theorem pK3_any (a0 : Int) (h0 : 0 ≤ a0 ∧ a0 ≤ 2) (a1 : Int) (h1 : 3 ≤ a1 ∧ a1 ≤ 3) (w : World) : Calls Tryz.prog 6 #[.int .i64 a0, .int .i64 a1] w fun e w' => e = .returned (.bool true) ∧ Kp [] w w' := by
  obtain rfl : a1 = 3 := by omega
  exact run_bool (ds := pK3_dead) follows_mixed plans_ok hubDeaf.sumsG_ok (pK3_run) pK3_ok (fun i => if i = 0 then a0 else if i = 1 then 3 else 0) (fun x hx => by cases hx) (rgOk_cons (⟨h0.1, h0.2⟩) (rgOk_cons (⟨Int.le_refl _, Int.le_refl _⟩) (rgOk_nil))) (fun d hd => by simp [pK3_dead] at hd) (xs := [.int .i64 a0, .int .i64 3]) (by rfl) w

def pK4_dead : List (List (SB × Bool)) := []
noncomputable def pK4_tree : R := fillT endT []
set_option maxRecDepth 1000000 in
theorem pK4_run : evCall Tryz.prog plans hubDeaf.sumsG 100000 6 [.int .i64 (.var 0), .int .i64 (.lit (.ofNat 4))] (s0 [] [[]] [((.ofNat 0), (.ofNat 3)), ((.ofNat 4), (.ofNat 4))]) finK = pK4_tree := by kernel_rfl
set_option maxRecDepth 1000000 in
theorem pK4_ok : okTree pK4_tree true [] pK4_dead = true := by kernel_rfl
theorem pK4_any (a0 : Int) (h0 : 0 ≤ a0 ∧ a0 ≤ 3) (a1 : Int) (h1 : 4 ≤ a1 ∧ a1 ≤ 4) (w : World) : Calls Tryz.prog 6 #[.int .i64 a0, .int .i64 a1] w fun e w' => e = .returned (.bool true) ∧ Kp [] w w' := by
  obtain rfl : a1 = 4 := by omega
  exact run_bool (ds := pK4_dead) follows_mixed plans_ok hubDeaf.sumsG_ok (pK4_run) pK4_ok (fun i => if i = 0 then a0 else if i = 1 then 4 else 0) (fun x hx => by cases hx) (rgOk_cons (⟨h0.1, h0.2⟩) (rgOk_cons (⟨Int.le_refl _, Int.le_refl _⟩) (rgOk_nil))) (fun d hd => by simp [pK4_dead] at hd) (xs := [.int .i64 a0, .int .i64 4]) (by rfl) w

def pK5_dead : List (List (SB × Bool)) := []
noncomputable def pK5_tree : R := fillT endT []
set_option maxRecDepth 1000000 in
theorem pK5_run : evCall Tryz.prog plans hubDeaf.sumsG 100000 6 [.int .i64 (.var 0), .int .i64 (.lit (.ofNat 5))] (s0 [] [[]] [((.ofNat 0), (.ofNat 4)), ((.ofNat 5), (.ofNat 5))]) finK = pK5_tree := by kernel_rfl
set_option maxRecDepth 1000000 in
theorem pK5_ok : okTree pK5_tree true [] pK5_dead = true := by kernel_rfl
theorem pK5_any (a0 : Int) (h0 : 0 ≤ a0 ∧ a0 ≤ 4) (a1 : Int) (h1 : 5 ≤ a1 ∧ a1 ≤ 5) (w : World) : Calls Tryz.prog 6 #[.int .i64 a0, .int .i64 a1] w fun e w' => e = .returned (.bool true) ∧ Kp [] w w' := by
  obtain rfl : a1 = 5 := by omega
  exact run_bool (ds := pK5_dead) follows_mixed plans_ok hubDeaf.sumsG_ok (pK5_run) pK5_ok (fun i => if i = 0 then a0 else if i = 1 then 5 else 0) (fun x hx => by cases hx) (rgOk_cons (⟨h0.1, h0.2⟩) (rgOk_cons (⟨Int.le_refl _, Int.le_refl _⟩) (rgOk_nil))) (fun d hd => by simp [pK5_dead] at hd) (xs := [.int .i64 a0, .int .i64 5]) (by rfl) w

def pK6_dead : List (List (SB × Bool)) := []
noncomputable def pK6_tree : R := fillT endT []
set_option maxRecDepth 1000000 in
theorem pK6_run : evCall Tryz.prog plans hubDeaf.sumsG 100000 6 [.int .i64 (.var 0), .int .i64 (.lit (.ofNat 6))] (s0 [] [[]] [((.ofNat 0), (.ofNat 5)), ((.ofNat 6), (.ofNat 6))]) finK = pK6_tree := by kernel_rfl
set_option maxRecDepth 1000000 in
theorem pK6_ok : okTree pK6_tree true [] pK6_dead = true := by kernel_rfl
theorem pK6_any (a0 : Int) (h0 : 0 ≤ a0 ∧ a0 ≤ 5) (a1 : Int) (h1 : 6 ≤ a1 ∧ a1 ≤ 6) (w : World) : Calls Tryz.prog 6 #[.int .i64 a0, .int .i64 a1] w fun e w' => e = .returned (.bool true) ∧ Kp [] w w' := by
  obtain rfl : a1 = 6 := by omega
  exact run_bool (ds := pK6_dead) follows_mixed plans_ok hubDeaf.sumsG_ok (pK6_run) pK6_ok (fun i => if i = 0 then a0 else if i = 1 then 6 else 0) (fun x hx => by cases hx) (rgOk_cons (⟨h0.1, h0.2⟩) (rgOk_cons (⟨Int.le_refl _, Int.le_refl _⟩) (rgOk_nil))) (fun d hd => by simp [pK6_dead] at hd) (xs := [.int .i64 a0, .int .i64 6]) (by rfl) w

def pK7_dead : List (List (SB × Bool)) := []
noncomputable def pK7_tree : R := fillT endT []
set_option maxRecDepth 1000000 in
theorem pK7_run : evCall Tryz.prog plans hubDeaf.sumsG 100000 6 [.int .i64 (.var 0), .int .i64 (.lit (.ofNat 7))] (s0 [] [[]] [((.ofNat 0), (.ofNat 6)), ((.ofNat 7), (.ofNat 7))]) finK = pK7_tree := by kernel_rfl
set_option maxRecDepth 1000000 in
theorem pK7_ok : okTree pK7_tree true [] pK7_dead = true := by kernel_rfl
theorem pK7_any (a0 : Int) (h0 : 0 ≤ a0 ∧ a0 ≤ 6) (a1 : Int) (h1 : 7 ≤ a1 ∧ a1 ≤ 7) (w : World) : Calls Tryz.prog 6 #[.int .i64 a0, .int .i64 a1] w fun e w' => e = .returned (.bool true) ∧ Kp [] w w' := by
  obtain rfl : a1 = 7 := by omega
  exact run_bool (ds := pK7_dead) follows_mixed plans_ok hubDeaf.sumsG_ok (pK7_run) pK7_ok (fun i => if i = 0 then a0 else if i = 1 then 7 else 0) (fun x hx => by cases hx) (rgOk_cons (⟨h0.1, h0.2⟩) (rgOk_cons (⟨Int.le_refl _, Int.le_refl _⟩) (rgOk_nil))) (fun d hd => by simp [pK7_dead] at hd) (xs := [.int .i64 a0, .int .i64 7]) (by rfl) w

def pK8_dead : List (List (SB × Bool)) := []
noncomputable def pK8_tree : R := fillT endT []
set_option maxRecDepth 1000000 in
theorem pK8_run : evCall Tryz.prog plans hubDeaf.sumsG 100000 6 [.int .i64 (.var 0), .int .i64 (.lit (.ofNat 8))] (s0 [] [[]] [((.ofNat 0), (.ofNat 7)), ((.ofNat 8), (.ofNat 8))]) finK = pK8_tree := by kernel_rfl
set_option maxRecDepth 1000000 in
theorem pK8_ok : okTree pK8_tree true [] pK8_dead = true := by kernel_rfl
theorem pK8_any (a0 : Int) (h0 : 0 ≤ a0 ∧ a0 ≤ 7) (a1 : Int) (h1 : 8 ≤ a1 ∧ a1 ≤ 8) (w : World) : Calls Tryz.prog 6 #[.int .i64 a0, .int .i64 a1] w fun e w' => e = .returned (.bool true) ∧ Kp [] w w' := by
  obtain rfl : a1 = 8 := by omega
  exact run_bool (ds := pK8_dead) follows_mixed plans_ok hubDeaf.sumsG_ok (pK8_run) pK8_ok (fun i => if i = 0 then a0 else if i = 1 then 8 else 0) (fun x hx => by cases hx) (rgOk_cons (⟨h0.1, h0.2⟩) (rgOk_cons (⟨Int.le_refl _, Int.le_refl _⟩) (rgOk_nil))) (fun d hd => by simp [pK8_dead] at hd) (xs := [.int .i64 a0, .int .i64 8]) (by rfl) w

def pK9_dead : List (List (SB × Bool)) := []
noncomputable def pK9_tree : R := fillT endT []
set_option maxRecDepth 1000000 in
theorem pK9_run : evCall Tryz.prog plans hubDeaf.sumsG 100000 6 [.int .i64 (.var 0), .int .i64 (.lit (.ofNat 9))] (s0 [] [[]] [((.ofNat 0), (.ofNat 8)), ((.ofNat 9), (.ofNat 9))]) finK = pK9_tree := by kernel_rfl
set_option maxRecDepth 1000000 in
theorem pK9_ok : okTree pK9_tree true [] pK9_dead = true := by kernel_rfl
theorem pK9_any (a0 : Int) (h0 : 0 ≤ a0 ∧ a0 ≤ 8) (a1 : Int) (h1 : 9 ≤ a1 ∧ a1 ≤ 9) (w : World) : Calls Tryz.prog 6 #[.int .i64 a0, .int .i64 a1] w fun e w' => e = .returned (.bool true) ∧ Kp [] w w' := by
  obtain rfl : a1 = 9 := by omega
  exact run_bool (ds := pK9_dead) follows_mixed plans_ok hubDeaf.sumsG_ok (pK9_run) pK9_ok (fun i => if i = 0 then a0 else if i = 1 then 9 else 0) (fun x hx => by cases hx) (rgOk_cons (⟨h0.1, h0.2⟩) (rgOk_cons (⟨Int.le_refl _, Int.le_refl _⟩) (rgOk_nil))) (fun d hd => by simp [pK9_dead] at hd) (xs := [.int .i64 a0, .int .i64 9]) (by rfl) w

def pK10_dead : List (List (SB × Bool)) := []
noncomputable def pK10_tree : R := fillT endT []
set_option maxRecDepth 1000000 in
theorem pK10_run : evCall Tryz.prog plans hubDeaf.sumsG 100000 6 [.int .i64 (.var 0), .int .i64 (.lit (.ofNat 10))] (s0 [] [[]] [((.ofNat 0), (.ofNat 9)), ((.ofNat 10), (.ofNat 10))]) finK = pK10_tree := by kernel_rfl
set_option maxRecDepth 1000000 in
theorem pK10_ok : okTree pK10_tree true [] pK10_dead = true := by kernel_rfl
theorem pK10_any (a0 : Int) (h0 : 0 ≤ a0 ∧ a0 ≤ 9) (a1 : Int) (h1 : 10 ≤ a1 ∧ a1 ≤ 10) (w : World) : Calls Tryz.prog 6 #[.int .i64 a0, .int .i64 a1] w fun e w' => e = .returned (.bool true) ∧ Kp [] w w' := by
  obtain rfl : a1 = 10 := by omega
  exact run_bool (ds := pK10_dead) follows_mixed plans_ok hubDeaf.sumsG_ok (pK10_run) pK10_ok (fun i => if i = 0 then a0 else if i = 1 then 10 else 0) (fun x hx => by cases hx) (rgOk_cons (⟨h0.1, h0.2⟩) (rgOk_cons (⟨Int.le_refl _, Int.le_refl _⟩) (rgOk_nil))) (fun d hd => by simp [pK10_dead] at hd) (xs := [.int .i64 a0, .int .i64 10]) (by rfl) w

def pK11_dead : List (List (SB × Bool)) := []
noncomputable def pK11_tree : R := fillT endT []
set_option maxRecDepth 1000000 in
theorem pK11_run : evCall Tryz.prog plans hubDeaf.sumsG 100000 6 [.int .i64 (.var 0), .int .i64 (.lit (.ofNat 11))] (s0 [] [[]] [((.ofNat 0), (.ofNat 10)), ((.ofNat 11), (.ofNat 11))]) finK = pK11_tree := by kernel_rfl
set_option maxRecDepth 1000000 in
theorem pK11_ok : okTree pK11_tree true [] pK11_dead = true := by kernel_rfl
theorem pK11_any (a0 : Int) (h0 : 0 ≤ a0 ∧ a0 ≤ 10) (a1 : Int) (h1 : 11 ≤ a1 ∧ a1 ≤ 11) (w : World) : Calls Tryz.prog 6 #[.int .i64 a0, .int .i64 a1] w fun e w' => e = .returned (.bool true) ∧ Kp [] w w' := by
  obtain rfl : a1 = 11 := by omega
  exact run_bool (ds := pK11_dead) follows_mixed plans_ok hubDeaf.sumsG_ok (pK11_run) pK11_ok (fun i => if i = 0 then a0 else if i = 1 then 11 else 0) (fun x hx => by cases hx) (rgOk_cons (⟨h0.1, h0.2⟩) (rgOk_cons (⟨Int.le_refl _, Int.le_refl _⟩) (rgOk_nil))) (fun d hd => by simp [pK11_dead] at hd) (xs := [.int .i64 a0, .int .i64 11]) (by rfl) w

def pK12_dead : List (List (SB × Bool)) := []
noncomputable def pK12_tree : R := fillT endT []
set_option maxRecDepth 1000000 in
theorem pK12_run : evCall Tryz.prog plans hubDeaf.sumsG 100000 6 [.int .i64 (.var 0), .int .i64 (.lit (.ofNat 12))] (s0 [] [[]] [((.ofNat 0), (.ofNat 11)), ((.ofNat 12), (.ofNat 12))]) finK = pK12_tree := by kernel_rfl
set_option maxRecDepth 1000000 in
theorem pK12_ok : okTree pK12_tree true [] pK12_dead = true := by kernel_rfl
theorem pK12_any (a0 : Int) (h0 : 0 ≤ a0 ∧ a0 ≤ 11) (a1 : Int) (h1 : 12 ≤ a1 ∧ a1 ≤ 12) (w : World) : Calls Tryz.prog 6 #[.int .i64 a0, .int .i64 a1] w fun e w' => e = .returned (.bool true) ∧ Kp [] w w' := by
  obtain rfl : a1 = 12 := by omega
  exact run_bool (ds := pK12_dead) follows_mixed plans_ok hubDeaf.sumsG_ok (pK12_run) pK12_ok (fun i => if i = 0 then a0 else if i = 1 then 12 else 0) (fun x hx => by cases hx) (rgOk_cons (⟨h0.1, h0.2⟩) (rgOk_cons (⟨Int.le_refl _, Int.le_refl _⟩) (rgOk_nil))) (fun d hd => by simp [pK12_dead] at hd) (xs := [.int .i64 a0, .int .i64 12]) (by rfl) w

def pK13_dead : List (List (SB × Bool)) := []
noncomputable def pK13_tree : R := fillT endT []
set_option maxRecDepth 1000000 in
theorem pK13_run : evCall Tryz.prog plans hubDeaf.sumsG 100000 6 [.int .i64 (.var 0), .int .i64 (.lit (.ofNat 13))] (s0 [] [[]] [((.ofNat 0), (.ofNat 12)), ((.ofNat 13), (.ofNat 13))]) finK = pK13_tree := by kernel_rfl
set_option maxRecDepth 1000000 in
theorem pK13_ok : okTree pK13_tree true [] pK13_dead = true := by kernel_rfl
theorem pK13_any (a0 : Int) (h0 : 0 ≤ a0 ∧ a0 ≤ 12) (a1 : Int) (h1 : 13 ≤ a1 ∧ a1 ≤ 13) (w : World) : Calls Tryz.prog 6 #[.int .i64 a0, .int .i64 a1] w fun e w' => e = .returned (.bool true) ∧ Kp [] w w' := by
  obtain rfl : a1 = 13 := by omega
  exact run_bool (ds := pK13_dead) follows_mixed plans_ok hubDeaf.sumsG_ok (pK13_run) pK13_ok (fun i => if i = 0 then a0 else if i = 1 then 13 else 0) (fun x hx => by cases hx) (rgOk_cons (⟨h0.1, h0.2⟩) (rgOk_cons (⟨Int.le_refl _, Int.le_refl _⟩) (rgOk_nil))) (fun d hd => by simp [pK13_dead] at hd) (xs := [.int .i64 a0, .int .i64 13]) (by rfl) w

def pK14_dead : List (List (SB × Bool)) := []
noncomputable def pK14_tree : R := fillT endT []
set_option maxRecDepth 1000000 in
theorem pK14_run : evCall Tryz.prog plans hubDeaf.sumsG 100000 6 [.int .i64 (.var 0), .int .i64 (.lit (.ofNat 14))] (s0 [] [[]] [((.ofNat 0), (.ofNat 13)), ((.ofNat 14), (.ofNat 14))]) finK = pK14_tree := by kernel_rfl
set_option maxRecDepth 1000000 in
theorem pK14_ok : okTree pK14_tree true [] pK14_dead = true := by kernel_rfl
theorem pK14_any (a0 : Int) (h0 : 0 ≤ a0 ∧ a0 ≤ 13) (a1 : Int) (h1 : 14 ≤ a1 ∧ a1 ≤ 14) (w : World) : Calls Tryz.prog 6 #[.int .i64 a0, .int .i64 a1] w fun e w' => e = .returned (.bool true) ∧ Kp [] w w' := by
  obtain rfl : a1 = 14 := by omega
  exact run_bool (ds := pK14_dead) follows_mixed plans_ok hubDeaf.sumsG_ok (pK14_run) pK14_ok (fun i => if i = 0 then a0 else if i = 1 then 14 else 0) (fun x hx => by cases hx) (rgOk_cons (⟨h0.1, h0.2⟩) (rgOk_cons (⟨Int.le_refl _, Int.le_refl _⟩) (rgOk_nil))) (fun d hd => by simp [pK14_dead] at hd) (xs := [.int .i64 a0, .int .i64 14]) (by rfl) w

def pK15_dead : List (List (SB × Bool)) := []
noncomputable def pK15_tree : R := fillT endT []
set_option maxRecDepth 1000000 in
theorem pK15_run : evCall Tryz.prog plans hubDeaf.sumsG 100000 6 [.int .i64 (.var 0), .int .i64 (.lit (.ofNat 15))] (s0 [] [[]] [((.ofNat 0), (.ofNat 14)), ((.ofNat 15), (.ofNat 15))]) finK = pK15_tree := by kernel_rfl
set_option maxRecDepth 1000000 in
theorem pK15_ok : okTree pK15_tree true [] pK15_dead = true := by kernel_rfl
theorem pK15_any (a0 : Int) (h0 : 0 ≤ a0 ∧ a0 ≤ 14) (a1 : Int) (h1 : 15 ≤ a1 ∧ a1 ≤ 15) (w : World) : Calls Tryz.prog 6 #[.int .i64 a0, .int .i64 a1] w fun e w' => e = .returned (.bool true) ∧ Kp [] w w' := by
  obtain rfl : a1 = 15 := by omega
  exact run_bool (ds := pK15_dead) follows_mixed plans_ok hubDeaf.sumsG_ok (pK15_run) pK15_ok (fun i => if i = 0 then a0 else if i = 1 then 15 else 0) (fun x hx => by cases hx) (rgOk_cons (⟨h0.1, h0.2⟩) (rgOk_cons (⟨Int.le_refl _, Int.le_refl _⟩) (rgOk_nil))) (fun d hd => by simp [pK15_dead] at hd) (xs := [.int .i64 a0, .int .i64 15]) (by rfl) w

def pK16_dead : List (List (SB × Bool)) := []
noncomputable def pK16_tree : R := fillT endT []
set_option maxRecDepth 1000000 in
theorem pK16_run : evCall Tryz.prog plans hubDeaf.sumsG 100000 6 [.int .i64 (.var 0), .int .i64 (.lit (.ofNat 16))] (s0 [] [[]] [((.ofNat 0), (.ofNat 15)), ((.ofNat 16), (.ofNat 16))]) finK = pK16_tree := by kernel_rfl
set_option maxRecDepth 1000000 in
theorem pK16_ok : okTree pK16_tree true [] pK16_dead = true := by kernel_rfl
theorem pK16_any (a0 : Int) (h0 : 0 ≤ a0 ∧ a0 ≤ 15) (a1 : Int) (h1 : 16 ≤ a1 ∧ a1 ≤ 16) (w : World) : Calls Tryz.prog 6 #[.int .i64 a0, .int .i64 a1] w fun e w' => e = .returned (.bool true) ∧ Kp [] w w' := by
  obtain rfl : a1 = 16 := by omega
  exact run_bool (ds := pK16_dead) follows_mixed plans_ok hubDeaf.sumsG_ok (pK16_run) pK16_ok (fun i => if i = 0 then a0 else if i = 1 then 16 else 0) (fun x hx => by cases hx) (rgOk_cons (⟨h0.1, h0.2⟩) (rgOk_cons (⟨Int.le_refl _, Int.le_refl _⟩) (rgOk_nil))) (fun d hd => by simp [pK16_dead] at hd) (xs := [.int .i64 a0, .int .i64 16]) (by rfl) w

def pK17_dead : List (List (SB × Bool)) := []
noncomputable def pK17_tree : R := fillT endT []
set_option maxRecDepth 1000000 in
theorem pK17_run : evCall Tryz.prog plans hubDeaf.sumsG 100000 6 [.int .i64 (.var 0), .int .i64 (.lit (.ofNat 17))] (s0 [] [[]] [((.ofNat 0), (.ofNat 16)), ((.ofNat 17), (.ofNat 17))]) finK = pK17_tree := by kernel_rfl
set_option maxRecDepth 1000000 in
theorem pK17_ok : okTree pK17_tree true [] pK17_dead = true := by kernel_rfl
theorem pK17_any (a0 : Int) (h0 : 0 ≤ a0 ∧ a0 ≤ 16) (a1 : Int) (h1 : 17 ≤ a1 ∧ a1 ≤ 17) (w : World) : Calls Tryz.prog 6 #[.int .i64 a0, .int .i64 a1] w fun e w' => e = .returned (.bool true) ∧ Kp [] w w' := by
  obtain rfl : a1 = 17 := by omega
  exact run_bool (ds := pK17_dead) follows_mixed plans_ok hubDeaf.sumsG_ok (pK17_run) pK17_ok (fun i => if i = 0 then a0 else if i = 1 then 17 else 0) (fun x hx => by cases hx) (rgOk_cons (⟨h0.1, h0.2⟩) (rgOk_cons (⟨Int.le_refl _, Int.le_refl _⟩) (rgOk_nil))) (fun d hd => by simp [pK17_dead] at hd) (xs := [.int .i64 a0, .int .i64 17]) (by rfl) w

def pK18_dead : List (List (SB × Bool)) := []
noncomputable def pK18_tree : R := fillT endT []
set_option maxRecDepth 1000000 in
theorem pK18_run : evCall Tryz.prog plans hubDeaf.sumsG 100000 6 [.int .i64 (.var 0), .int .i64 (.lit (.ofNat 18))] (s0 [] [[]] [((.ofNat 0), (.ofNat 17)), ((.ofNat 18), (.ofNat 18))]) finK = pK18_tree := by kernel_rfl
set_option maxRecDepth 1000000 in
theorem pK18_ok : okTree pK18_tree true [] pK18_dead = true := by kernel_rfl
theorem pK18_any (a0 : Int) (h0 : 0 ≤ a0 ∧ a0 ≤ 17) (a1 : Int) (h1 : 18 ≤ a1 ∧ a1 ≤ 18) (w : World) : Calls Tryz.prog 6 #[.int .i64 a0, .int .i64 a1] w fun e w' => e = .returned (.bool true) ∧ Kp [] w w' := by
  obtain rfl : a1 = 18 := by omega
  exact run_bool (ds := pK18_dead) follows_mixed plans_ok hubDeaf.sumsG_ok (pK18_run) pK18_ok (fun i => if i = 0 then a0 else if i = 1 then 18 else 0) (fun x hx => by cases hx) (rgOk_cons (⟨h0.1, h0.2⟩) (rgOk_cons (⟨Int.le_refl _, Int.le_refl _⟩) (rgOk_nil))) (fun d hd => by simp [pK18_dead] at hd) (xs := [.int .i64 a0, .int .i64 18]) (by rfl) w

def pK19_dead : List (List (SB × Bool)) := []
noncomputable def pK19_tree : R := fillT endT []
set_option maxRecDepth 1000000 in
theorem pK19_run : evCall Tryz.prog plans hubDeaf.sumsG 100000 6 [.int .i64 (.var 0), .int .i64 (.lit (.ofNat 19))] (s0 [] [[]] [((.ofNat 0), (.ofNat 18)), ((.ofNat 19), (.ofNat 19))]) finK = pK19_tree := by kernel_rfl
set_option maxRecDepth 1000000 in
theorem pK19_ok : okTree pK19_tree true [] pK19_dead = true := by kernel_rfl
theorem pK19_any (a0 : Int) (h0 : 0 ≤ a0 ∧ a0 ≤ 18) (a1 : Int) (h1 : 19 ≤ a1 ∧ a1 ≤ 19) (w : World) : Calls Tryz.prog 6 #[.int .i64 a0, .int .i64 a1] w fun e w' => e = .returned (.bool true) ∧ Kp [] w w' := by
  obtain rfl : a1 = 19 := by omega
  exact run_bool (ds := pK19_dead) follows_mixed plans_ok hubDeaf.sumsG_ok (pK19_run) pK19_ok (fun i => if i = 0 then a0 else if i = 1 then 19 else 0) (fun x hx => by cases hx) (rgOk_cons (⟨h0.1, h0.2⟩) (rgOk_cons (⟨Int.le_refl _, Int.le_refl _⟩) (rgOk_nil))) (fun d hd => by simp [pK19_dead] at hd) (xs := [.int .i64 a0, .int .i64 19]) (by rfl) w

def pK20_dead : List (List (SB × Bool)) := []
noncomputable def pK20_tree : R := fillT endT []
set_option maxRecDepth 1000000 in
theorem pK20_run : evCall Tryz.prog plans hubDeaf.sumsG 100000 6 [.int .i64 (.var 0), .int .i64 (.lit (.ofNat 20))] (s0 [] [[]] [((.ofNat 0), (.ofNat 19)), ((.ofNat 20), (.ofNat 20))]) finK = pK20_tree := by kernel_rfl
set_option maxRecDepth 1000000 in
theorem pK20_ok : okTree pK20_tree true [] pK20_dead = true := by kernel_rfl
theorem pK20_any (a0 : Int) (h0 : 0 ≤ a0 ∧ a0 ≤ 19) (a1 : Int) (h1 : 20 ≤ a1 ∧ a1 ≤ 20) (w : World) : Calls Tryz.prog 6 #[.int .i64 a0, .int .i64 a1] w fun e w' => e = .returned (.bool true) ∧ Kp [] w w' := by
  obtain rfl : a1 = 20 := by omega
  exact run_bool (ds := pK20_dead) follows_mixed plans_ok hubDeaf.sumsG_ok (pK20_run) pK20_ok (fun i => if i = 0 then a0 else if i = 1 then 20 else 0) (fun x hx => by cases hx) (rgOk_cons (⟨h0.1, h0.2⟩) (rgOk_cons (⟨Int.le_refl _, Int.le_refl _⟩) (rgOk_nil))) (fun d hd => by simp [pK20_dead] at hd) (xs := [.int .i64 a0, .int .i64 20]) (by rfl) w

end Go.Proofs.YtlmpmmcefdhgmaaGreat.hubDeaf

/-
  HubDeaf: runs, N17x7, N17x8, N17x9, N17x10, N17x11, N17x12, N17x13, N17x14, N17x15, N17x16, N17x17, N18x0, N18x1, N18x2, N18x3, N18x4, N18x5, N18x6, N18x7, N18x8, N18x9, N18x10, N18x11, N18x12, N18x13, N18x14, N18x15, N18x16, N18x17, N18x18, N19x0, N19x1.
-/
import Derived.Test.YtlmpmmcefdhgmaaGreatSgDS
import Derived.Test.YtlmpmmcefdhgmaaGreatRs
import Derived.Test.YtlmpmmcefdhgmaaGreatPlsOk
set_option linter.unusedVariables false
set_option linter.unusedSimpArgs false
namespace Go.Proofs.YtlmpmmcefdhgmaaGreat.hubDeaf
open Go

def pN17x7_dead : List (List (SB × Bool)) := []
noncomputable def pN17x7_tree : R := fillT endT []
set_option maxRecDepth 1000000 in
theorem pN17x7_run : evCall Tryz.prog plans hubDeaf.sumsG 100000 6 [.int .i64 (.lit (.ofNat 17)), .int .i64 (.lit (.ofNat 7))] (s0 [] [[]] [((.ofNat 17), (.ofNat 17)), ((.ofNat 7), (.ofNat 7))]) finK = pN17x7_tree := by kernel_rfl
set_option maxRecDepth 1000000 in
theorem pN17x7_ok : okTree pN17x7_tree true [] pN17x7_dead = true := by kernel_rfl
theorem pN17x7_any (a0 : Int) (h0 : 17 ≤ a0 ∧ a0 ≤ 17) (a1 : Int) (h1 : 7 ≤ a1 ∧ a1 ≤ 7) (w : World) : Calls Tryz.prog 6 #[.int .i64 a0, .int .i64 a1] w fun e w' => e = .returned (.bool true) ∧ Kp [] w w' := by
  obtain rfl : a0 = 17 := by omega
  obtain rfl : a1 = 7 := by omega
  exact run_bool (ds := pN17x7_dead) follows_mixed plans_ok hubDeaf.sumsG_ok (pN17x7_run) pN17x7_ok (fun i => if i = 0 then 17 else if i = 1 then 7 else 0) (fun x hx => by cases hx) (rgOk_cons (⟨Int.le_refl _, Int.le_refl _⟩) (rgOk_cons (⟨Int.le_refl _, Int.le_refl _⟩) (rgOk_nil))) (fun d hd => by simp [pN17x7_dead] at hd) (xs := [.int .i64 17, .int .i64 7]) (by rfl) w

def pN17x8_dead : List (List (SB × Bool)) := []
noncomputable def pN17x8_tree : R := fillT endT []
set_option maxRecDepth 1000000 in
theorem pN17x8_run : evCall Tryz.prog plans hubDeaf.sumsG 100000 6 [.int .i64 (.lit (.ofNat 17)), .int .i64 (.lit (.ofNat 8))] (s0 [] [[]] [((.ofNat 17), (.ofNat 17)), ((.ofNat 8), (.ofNat 8))]) finK = pN17x8_tree := by kernel_rfl
set_option maxRecDepth 1000000 in
theorem pN17x8_ok : okTree pN17x8_tree true [] pN17x8_dead = true := by kernel_rfl
theorem pN17x8_any (a0 : Int) (h0 : 17 ≤ a0 ∧ a0 ≤ 17) (a1 : Int) (h1 : 8 ≤ a1 ∧ a1 ≤ 8) (w : World) : Calls Tryz.prog 6 #[.int .i64 a0, .int .i64 a1] w fun e w' => e = .returned (.bool true) ∧ Kp [] w w' := by
  obtain rfl : a0 = 17 := by omega
  obtain rfl : a1 = 8 := by omega
  exact run_bool (ds := pN17x8_dead) follows_mixed plans_ok hubDeaf.sumsG_ok (pN17x8_run) pN17x8_ok (fun i => if i = 0 then 17 else if i = 1 then 8 else 0) (fun x hx => by cases hx) (rgOk_cons (⟨Int.le_refl _, Int.le_refl _⟩) (rgOk_cons (⟨Int.le_refl _, Int.le_refl _⟩) (rgOk_nil))) (fun d hd => by simp [pN17x8_dead] at hd) (xs := [.int .i64 17, .int .i64 8]) (by rfl) w

def pN17x9_dead : List (List (SB × Bool)) := []
noncomputable def pN17x9_tree : R := fillT endT []
set_option maxRecDepth 1000000 in
theorem pN17x9_run : evCall Tryz.prog plans hubDeaf.sumsG 100000 6 [.int .i64 (.lit (.ofNat 17)), .int .i64 (.lit (.ofNat 9))] (s0 [] [[]] [((.ofNat 17), (.ofNat 17)), ((.ofNat 9), (.ofNat 9))]) finK = pN17x9_tree := by kernel_rfl
set_option maxRecDepth 1000000 in
theorem pN17x9_ok : okTree pN17x9_tree true [] pN17x9_dead = true := by kernel_rfl
theorem pN17x9_any (a0 : Int) (h0 : 17 ≤ a0 ∧ a0 ≤ 17) (a1 : Int) (h1 : 9 ≤ a1 ∧ a1 ≤ 9) (w : World) : Calls Tryz.prog 6 #[.int .i64 a0, .int .i64 a1] w fun e w' => e = .returned (.bool true) ∧ Kp [] w w' := by
  obtain rfl : a0 = 17 := by omega
  obtain rfl : a1 = 9 := by omega
  exact run_bool (ds := pN17x9_dead) follows_mixed plans_ok hubDeaf.sumsG_ok (pN17x9_run) pN17x9_ok (fun i => if i = 0 then 17 else if i = 1 then 9 else 0) (fun x hx => by cases hx) (rgOk_cons (⟨Int.le_refl _, Int.le_refl _⟩) (rgOk_cons (⟨Int.le_refl _, Int.le_refl _⟩) (rgOk_nil))) (fun d hd => by simp [pN17x9_dead] at hd) (xs := [.int .i64 17, .int .i64 9]) (by rfl) w

def pN17x10_dead : List (List (SB × Bool)) := []
noncomputable def pN17x10_tree : R := fillT endT []
set_option maxRecDepth 1000000 in
theorem pN17x10_run : evCall Tryz.prog plans hubDeaf.sumsG 100000 6 [.int .i64 (.lit (.ofNat 17)), .int .i64 (.lit (.ofNat 10))] (s0 [] [[]] [((.ofNat 17), (.ofNat 17)), ((.ofNat 10), (.ofNat 10))]) finK = pN17x10_tree := by kernel_rfl
set_option maxRecDepth 1000000 in
theorem pN17x10_ok : okTree pN17x10_tree true [] pN17x10_dead = true := by kernel_rfl
theorem pN17x10_any (a0 : Int) (h0 : 17 ≤ a0 ∧ a0 ≤ 17) (a1 : Int) (h1 : 10 ≤ a1 ∧ a1 ≤ 10) (w : World) : Calls Tryz.prog 6 #[.int .i64 a0, .int .i64 a1] w fun e w' => e = .returned (.bool true) ∧ Kp [] w w' := by
  obtain rfl : a0 = 17 := by omega
  obtain rfl : a1 = 10 := by omega
  exact run_bool (ds := pN17x10_dead) follows_mixed plans_ok hubDeaf.sumsG_ok (pN17x10_run) pN17x10_ok (fun i => if i = 0 then 17 else if i = 1 then 10 else 0) (fun x hx => by cases hx) (rgOk_cons (⟨Int.le_refl _, Int.le_refl _⟩) (rgOk_cons (⟨Int.le_refl _, Int.le_refl _⟩) (rgOk_nil))) (fun d hd => by simp [pN17x10_dead] at hd) (xs := [.int .i64 17, .int .i64 10]) (by rfl) w

def pN17x11_dead : List (List (SB × Bool)) := []
noncomputable def pN17x11_tree : R := fillT endT []
set_option maxRecDepth 1000000 in
theorem pN17x11_run : evCall Tryz.prog plans hubDeaf.sumsG 100000 6 [.int .i64 (.lit (.ofNat 17)), .int .i64 (.lit (.ofNat 11))] (s0 [] [[]] [((.ofNat 17), (.ofNat 17)), ((.ofNat 11), (.ofNat 11))]) finK = pN17x11_tree := by kernel_rfl
set_option maxRecDepth 1000000 in
theorem pN17x11_ok : okTree pN17x11_tree true [] pN17x11_dead = true := by kernel_rfl
theorem pN17x11_any (a0 : Int) (h0 : 17 ≤ a0 ∧ a0 ≤ 17) (a1 : Int) (h1 : 11 ≤ a1 ∧ a1 ≤ 11) (w : World) : Calls Tryz.prog 6 #[.int .i64 a0, .int .i64 a1] w fun e w' => e = .returned (.bool true) ∧ Kp [] w w' := by
  obtain rfl : a0 = 17 := by omega
  obtain rfl : a1 = 11 := by omega
  exact run_bool (ds := pN17x11_dead) follows_mixed plans_ok hubDeaf.sumsG_ok (pN17x11_run) pN17x11_ok (fun i => if i = 0 then 17 else if i = 1 then 11 else 0) (fun x hx => by cases hx) (rgOk_cons (⟨Int.le_refl _, Int.le_refl _⟩) (rgOk_cons (⟨Int.le_refl _, Int.le_refl _⟩) (rgOk_nil))) (fun d hd => by simp [pN17x11_dead] at hd) (xs := [.int .i64 17, .int .i64 11]) (by rfl) w

def pN17x12_dead : List (List (SB × Bool)) := []
noncomputable def pN17x12_tree : R := fillT endT []
set_option maxRecDepth 1000000 in
theorem pN17x12_run : evCall Tryz.prog plans hubDeaf.sumsG 100000 6 [.int .i64 (.lit (.ofNat 17)), .int .i64 (.lit (.ofNat 12))] (s0 [] [[]] [((.ofNat 17), (.ofNat 17)), ((.ofNat 12), (.ofNat 12))]) finK = pN17x12_tree := by kernel_rfl
set_option maxRecDepth 1000000 in
theorem pN17x12_ok : okTree pN17x12_tree true [] pN17x12_dead = true := by kernel_rfl
theorem pN17x12_any (a0 : Int) (h0 : 17 ≤ a0 ∧ a0 ≤ 17) (a1 : Int) (h1 : 12 ≤ a1 ∧ a1 ≤ 12) (w : World) : Calls Tryz.prog 6 #[.int .i64 a0, .int .i64 a1] w fun e w' => e = .returned (.bool true) ∧ Kp [] w w' := by
  obtain rfl : a0 = 17 := by omega
  obtain rfl : a1 = 12 := by omega
  exact run_bool (ds := pN17x12_dead) follows_mixed plans_ok hubDeaf.sumsG_ok (pN17x12_run) pN17x12_ok (fun i => if i = 0 then 17 else if i = 1 then 12 else 0) (fun x hx => by cases hx) (rgOk_cons (⟨Int.le_refl _, Int.le_refl _⟩) (rgOk_cons (⟨Int.le_refl _, Int.le_refl _⟩) (rgOk_nil))) (fun d hd => by simp [pN17x12_dead] at hd) (xs := [.int .i64 17, .int .i64 12]) (by rfl) w

def pN17x13_dead : List (List (SB × Bool)) := []
noncomputable def pN17x13_tree : R := fillT endT []
set_option maxRecDepth 1000000 in
theorem pN17x13_run : evCall Tryz.prog plans hubDeaf.sumsG 100000 6 [.int .i64 (.lit (.ofNat 17)), .int .i64 (.lit (.ofNat 13))] (s0 [] [[]] [((.ofNat 17), (.ofNat 17)), ((.ofNat 13), (.ofNat 13))]) finK = pN17x13_tree := by kernel_rfl
set_option maxRecDepth 1000000 in
theorem pN17x13_ok : okTree pN17x13_tree true [] pN17x13_dead = true := by kernel_rfl
theorem pN17x13_any (a0 : Int) (h0 : 17 ≤ a0 ∧ a0 ≤ 17) (a1 : Int) (h1 : 13 ≤ a1 ∧ a1 ≤ 13) (w : World) : Calls Tryz.prog 6 #[.int .i64 a0, .int .i64 a1] w fun e w' => e = .returned (.bool true) ∧ Kp [] w w' := by
  obtain rfl : a0 = 17 := by omega
  obtain rfl : a1 = 13 := by omega
  exact run_bool (ds := pN17x13_dead) follows_mixed plans_ok hubDeaf.sumsG_ok (pN17x13_run) pN17x13_ok (fun i => if i = 0 then 17 else if i = 1 then 13 else 0) (fun x hx => by cases hx) (rgOk_cons (⟨Int.le_refl _, Int.le_refl _⟩) (rgOk_cons (⟨Int.le_refl _, Int.le_refl _⟩) (rgOk_nil))) (fun d hd => by simp [pN17x13_dead] at hd) (xs := [.int .i64 17, .int .i64 13]) (by rfl) w

def pN17x14_dead : List (List (SB × Bool)) := []
noncomputable def pN17x14_tree : R := fillT endT []
set_option maxRecDepth 1000000 in
theorem pN17x14_run : evCall Tryz.prog plans hubDeaf.sumsG 100000 6 [.int .i64 (.lit (.ofNat 17)), .int .i64 (.lit (.ofNat 14))] (s0 [] [[]] [((.ofNat 17), (.ofNat 17)), ((.ofNat 14), (.ofNat 14))]) finK = pN17x14_tree := by kernel_rfl
set_option maxRecDepth 1000000 in
theorem pN17x14_ok : okTree pN17x14_tree true [] pN17x14_dead = true := by kernel_rfl
theorem pN17x14_any (a0 : Int) (h0 : 17 ≤ a0 ∧ a0 ≤ 17) (a1 : Int) (h1 : 14 ≤ a1 ∧ a1 ≤ 14) (w : World) : Calls Tryz.prog 6 #[.int .i64 a0, .int .i64 a1] w fun e w' => e = .returned (.bool true) ∧ Kp [] w w' := by
  obtain rfl : a0 = 17 := by omega
  obtain rfl : a1 = 14 := by omega
  exact run_bool (ds := pN17x14_dead) follows_mixed plans_ok hubDeaf.sumsG_ok (pN17x14_run) pN17x14_ok (fun i => if i = 0 then 17 else if i = 1 then 14 else 0) (fun x hx => by cases hx) (rgOk_cons (⟨Int.le_refl _, Int.le_refl _⟩) (rgOk_cons (⟨Int.le_refl _, Int.le_refl _⟩) (rgOk_nil))) (fun d hd => by simp [pN17x14_dead] at hd) (xs := [.int .i64 17, .int .i64 14]) (by rfl) w

def pN17x15_dead : List (List (SB × Bool)) := []
noncomputable def pN17x15_tree : R := fillT endT []
set_option maxRecDepth 1000000 in
theorem pN17x15_run : evCall Tryz.prog plans hubDeaf.sumsG 100000 6 [.int .i64 (.lit (.ofNat 17)), .int .i64 (.lit (.ofNat 15))] (s0 [] [[]] [((.ofNat 17), (.ofNat 17)), ((.ofNat 15), (.ofNat 15))]) finK = pN17x15_tree := by kernel_rfl
set_option maxRecDepth 1000000 in
theorem pN17x15_ok : okTree pN17x15_tree true [] pN17x15_dead = true := by kernel_rfl
theorem pN17x15_any (a0 : Int) (h0 : 17 ≤ a0 ∧ a0 ≤ 17) (a1 : Int) (h1 : 15 ≤ a1 ∧ a1 ≤ 15) (w : World) : Calls Tryz.prog 6 #[.int .i64 a0, .int .i64 a1] w fun e w' => e = .returned (.bool true) ∧ Kp [] w w' := by
  obtain rfl : a0 = 17 := by omega
  obtain rfl : a1 = 15 := by omega
  exact run_bool (ds := pN17x15_dead) follows_mixed plans_ok hubDeaf.sumsG_ok (pN17x15_run) pN17x15_ok (fun i => if i = 0 then 17 else if i = 1 then 15 else 0) (fun x hx => by cases hx) (rgOk_cons (⟨Int.le_refl _, Int.le_refl _⟩) (rgOk_cons (⟨Int.le_refl _, Int.le_refl _⟩) (rgOk_nil))) (fun d hd => by simp [pN17x15_dead] at hd) (xs := [.int .i64 17, .int .i64 15]) (by rfl) w

def pN17x16_dead : List (List (SB × Bool)) := []
noncomputable def pN17x16_tree : R := fillT endT []
set_option maxRecDepth 1000000 in
theorem pN17x16_run : evCall Tryz.prog plans hubDeaf.sumsG 100000 6 [.int .i64 (.lit (.ofNat 17)), .int .i64 (.lit (.ofNat 16))] (s0 [] [[]] [((.ofNat 17), (.ofNat 17)), ((.ofNat 16), (.ofNat 16))]) finK = pN17x16_tree := by kernel_rfl
set_option maxRecDepth 1000000 in
theorem pN17x16_ok : okTree pN17x16_tree true [] pN17x16_dead = true := by kernel_rfl
theorem pN17x16_any (a0 : Int) (h0 : 17 ≤ a0 ∧ a0 ≤ 17) (a1 : Int) (h1 : 16 ≤ a1 ∧ a1 ≤ 16) (w : World) : Calls Tryz.prog 6 #[.int .i64 a0, .int .i64 a1] w fun e w' => e = .returned (.bool true) ∧ Kp [] w w' := by
  obtain rfl : a0 = 17 := by omega
  obtain rfl : a1 = 16 := by omega
  exact run_bool (ds := pN17x16_dead) follows_mixed plans_ok hubDeaf.sumsG_ok (pN17x16_run) pN17x16_ok (fun i => if i = 0 then 17 else if i = 1 then 16 else 0) (fun x hx => by cases hx) (rgOk_cons (⟨Int.le_refl _, Int.le_refl _⟩) (rgOk_cons (⟨Int.le_refl _, Int.le_refl _⟩) (rgOk_nil))) (fun d hd => by simp [pN17x16_dead] at hd) (xs := [.int .i64 17, .int .i64 16]) (by rfl) w

def pN17x17_dead : List (List (SB × Bool)) := []
noncomputable def pN17x17_tree : R := fillT endT []
set_option maxRecDepth 1000000 in
theorem pN17x17_run : evCall Tryz.prog plans hubDeaf.sumsG 100000 6 [.int .i64 (.lit (.ofNat 17)), .int .i64 (.lit (.ofNat 17))] (s0 [] [[]] [((.ofNat 17), (.ofNat 17)), ((.ofNat 17), (.ofNat 17))]) finK = pN17x17_tree := by kernel_rfl
set_option maxRecDepth 1000000 in
theorem pN17x17_ok : okTree pN17x17_tree true [] pN17x17_dead = true := by kernel_rfl
theorem pN17x17_any (a0 : Int) (h0 : 17 ≤ a0 ∧ a0 ≤ 17) (a1 : Int) (h1 : 17 ≤ a1 ∧ a1 ≤ 17) (w : World) : Calls Tryz.prog 6 #[.int .i64 a0, .int .i64 a1] w fun e w' => e = .returned (.bool true) ∧ Kp [] w w' := by
  obtain rfl : a0 = 17 := by omega
  obtain rfl : a1 = 17 := by omega
  exact run_bool (ds := pN17x17_dead) follows_mixed plans_ok hubDeaf.sumsG_ok (pN17x17_run) pN17x17_ok (fun i => if i = 0 then 17 else if i = 1 then 17 else 0) (fun x hx => by cases hx) (rgOk_cons (⟨Int.le_refl _, Int.le_refl _⟩) (rgOk_cons (⟨Int.le_refl _, Int.le_refl _⟩) (rgOk_nil))) (fun d hd => by simp [pN17x17_dead] at hd) (xs := [.int .i64 17, .int .i64 17]) (by rfl) w

def pN18x0_dead : List (List (SB × Bool)) := []
noncomputable def pN18x0_tree : R := fillT endT []
set_option maxRecDepth 1000000 in
theorem pN18x0_run : evCall Tryz.prog plans hubDeaf.sumsG 100000 6 [.int .i64 (.lit (.ofNat 18)), .int .i64 (.lit (.ofNat 0))] (s0 [] [[]] [((.ofNat 18), (.ofNat 18)), ((.ofNat 0), (.ofNat 0))]) finK = pN18x0_tree := by kernel_rfl
set_option maxRecDepth 1000000 in
theorem pN18x0_ok : okTree pN18x0_tree true [] pN18x0_dead = true := by kernel_rfl
theorem pN18x0_any (a0 : Int) (h0 : 18 ≤ a0 ∧ a0 ≤ 18) (a1 : Int) (h1 : 0 ≤ a1 ∧ a1 ≤ 0) (w : World) : Calls Tryz.prog 6 #[.int .i64 a0, .int .i64 a1] w fun e w' => e = .returned (.bool true) ∧ Kp [] w w' := by
  obtain rfl : a0 = 18 := by omega
  obtain rfl : a1 = 0 := by omega
  exact run_bool (ds := pN18x0_dead) follows_mixed plans_ok hubDeaf.sumsG_ok (pN18x0_run) pN18x0_ok (fun i => if i = 0 then 18 else if i = 1 then 0 else 0) (fun x hx => by cases hx) (rgOk_cons (⟨Int.le_refl _, Int.le_refl _⟩) (rgOk_cons (⟨Int.le_refl _, Int.le_refl _⟩) (rgOk_nil))) (fun d hd => by simp [pN18x0_dead] at hd) (xs := [.int .i64 18, .int .i64 0]) (by rfl) w

def pN18x1_dead : List (List (SB × Bool)) := []
noncomputable def pN18x1_tree : R := fillT endT []
set_option maxRecDepth 1000000 in
theorem pN18x1_run : evCall Tryz.prog plans hubDeaf.sumsG 100000 6 [.int .i64 (.lit (.ofNat 18)), .int .i64 (.lit (.ofNat 1))] (s0 [] [[]] [((.ofNat 18), (.ofNat 18)), ((.ofNat 1), (.ofNat 1))]) finK = pN18x1_tree := by kernel_rfl
set_option maxRecDepth 1000000 in
theorem pN18x1_ok : okTree pN18x1_tree true [] pN18x1_dead = true := by kernel_rfl
theorem pN18x1_any (a0 : Int) (h0 : 18 ≤ a0 ∧ a0 ≤ 18) (a1 : Int) (h1 : 1 ≤ a1 ∧ a1 ≤ 1) (w : World) : Calls Tryz.prog 6 #[.int .i64 a0, .int .i64 a1] w fun e w' => e = .returned (.bool true) ∧ Kp [] w w' := by
  obtain rfl : a0 = 18 := by omega
  obtain rfl : a1 = 1 := by omega
  exact run_bool (ds := pN18x1_dead) follows_mixed plans_ok hubDeaf.sumsG_ok (pN18x1_run) pN18x1_ok (fun i => if i = 0 then 18 else if i = 1 then 1 else 0) (fun x hx => by cases hx) (rgOk_cons (⟨Int.le_refl _, Int.le_refl _⟩) (rgOk_cons (⟨Int.le_refl _, Int.le_refl _⟩) (rgOk_nil))) (fun d hd => by simp [pN18x1_dead] at hd) (xs := [.int .i64 18, .int .i64 1]) (by rfl) w

def pN18x2_dead : List (List (SB × Bool)) := []
noncomputable def pN18x2_tree : R := fillT endT []
set_option maxRecDepth 1000000 in
theorem pN18x2_run : evCall Tryz.prog plans hubDeaf.sumsG 100000 6 [.int .i64 (.lit (.ofNat 18)), .int .i64 (.lit (.ofNat 2))] (s0 [] [[]] [((.ofNat 18), (.ofNat 18)), ((.ofNat 2), (.ofNat 2))]) finK = pN18x2_tree := by kernel_rfl
set_option maxRecDepth 1000000 in
theorem pN18x2_ok : okTree pN18x2_tree true [] pN18x2_dead = true := by kernel_rfl
theorem pN18x2_any (a0 : Int) (h0 : 18 ≤ a0 ∧ a0 ≤ 18) (a1 : Int) (h1 : 2 ≤ a1 ∧ a1 ≤ 2) (w : World) : Calls Tryz.prog 6 #[.int .i64 a0, .int .i64 a1] w fun e w' => e = .returned (.bool true) ∧ Kp [] w w' := by
  obtain rfl : a0 = 18 := by omega
  obtain rfl : a1 = 2 := by omega
  exact run_bool (ds := pN18x2_dead) follows_mixed plans_ok hubDeaf.sumsG_ok (pN18x2_run) pN18x2_ok (fun i => if i = 0 then 18 else if i = 1 then 2 else 0) (fun x hx => by cases hx) (rgOk_cons (⟨Int.le_refl _, Int.le_refl _⟩) (rgOk_cons (⟨Int.le_refl _, Int.le_refl _⟩) (rgOk_nil))) (fun d hd => by simp [pN18x2_dead] at hd) (xs := [.int .i64 18, .int .i64 2]) (by rfl) w

def pN18x3_dead : List (List (SB × Bool)) := []
noncomputable def pN18x3_tree : R := fillT endT []
set_option maxRecDepth 1000000 in
theorem pN18x3_run : evCall Tryz.prog plans hubDeaf.sumsG 100000 6 [.int .i64 (.lit (.ofNat 18)), .int .i64 (.lit (.ofNat 3))] (s0 [] [[]] [((.ofNat 18), (.ofNat 18)), ((.ofNat 3), (.ofNat 3))]) finK = pN18x3_tree := by kernel_rfl
set_option maxRecDepth 1000000 in
theorem pN18x3_ok : okTree pN18x3_tree true [] pN18x3_dead = true := by kernel_rfl
theorem pN18x3_any (a0 : Int) (h0 : 18 ≤ a0 ∧ a0 ≤ 18) (a1 : Int) (h1 : 3 ≤ a1 ∧ a1 ≤ 3) (w : World) : Calls Tryz.prog 6 #[.int .i64 a0, .int .i64 a1] w fun e w' => e = .returned (.bool true) ∧ Kp [] w w' := by
  obtain rfl : a0 = 18 := by omega
  obtain rfl : a1 = 3 := by omega
  exact run_bool (ds := pN18x3_dead) follows_mixed plans_ok hubDeaf.sumsG_ok (pN18x3_run) pN18x3_ok (fun i => if i = 0 then 18 else if i = 1 then 3 else 0) (fun x hx => by cases hx) (rgOk_cons (⟨Int.le_refl _, Int.le_refl _⟩) (rgOk_cons (⟨Int.le_refl _, Int.le_refl _⟩) (rgOk_nil))) (fun d hd => by simp [pN18x3_dead] at hd) (xs := [.int .i64 18, .int .i64 3]) (by rfl) w

def pN18x4_dead : List (List (SB × Bool)) := []
noncomputable def pN18x4_tree : R := fillT endT []
set_option maxRecDepth 1000000 in
theorem pN18x4_run : evCall Tryz.prog plans hubDeaf.sumsG 100000 6 [.int .i64 (.lit (.ofNat 18)), .int .i64 (.lit (.ofNat 4))] (s0 [] [[]] [((.ofNat 18), (.ofNat 18)), ((.ofNat 4), (.ofNat 4))]) finK = pN18x4_tree := by kernel_rfl
set_option maxRecDepth 1000000 in
theorem pN18x4_ok : okTree pN18x4_tree true [] pN18x4_dead = true := by kernel_rfl
theorem pN18x4_any (a0 : Int) (h0 : 18 ≤ a0 ∧ a0 ≤ 18) (a1 : Int) (h1 : 4 ≤ a1 ∧ a1 ≤ 4) (w : World) : Calls Tryz.prog 6 #[.int .i64 a0, .int .i64 a1] w fun e w' => e = .returned (.bool true) ∧ Kp [] w w' := by
  obtain rfl : a0 = 18 := by omega
  obtain rfl : a1 = 4 := by omega
  exact run_bool (ds := pN18x4_dead) follows_mixed plans_ok hubDeaf.sumsG_ok (pN18x4_run) pN18x4_ok (fun i => if i = 0 then 18 else if i = 1 then 4 else 0) (fun x hx => by cases hx) (rgOk_cons (⟨Int.le_refl _, Int.le_refl _⟩) (rgOk_cons (⟨Int.le_refl _, Int.le_refl _⟩) (rgOk_nil))) (fun d hd => by simp [pN18x4_dead] at hd) (xs := [.int .i64 18, .int .i64 4]) (by rfl) w

def pN18x5_dead : List (List (SB × Bool)) := []
noncomputable def pN18x5_tree : R := fillT endT []
set_option maxRecDepth 1000000 in
theorem pN18x5_run : evCall Tryz.prog plans hubDeaf.sumsG 100000 6 [.int .i64 (.lit (.ofNat 18)), .int .i64 (.lit (.ofNat 5))] (s0 [] [[]] [((.ofNat 18), (.ofNat 18)), ((.ofNat 5), (.ofNat 5))]) finK = pN18x5_tree := by kernel_rfl
set_option maxRecDepth 1000000 in
theorem pN18x5_ok : okTree pN18x5_tree true [] pN18x5_dead = true := by kernel_rfl
theorem pN18x5_any (a0 : Int) (h0 : 18 ≤ a0 ∧ a0 ≤ 18) (a1 : Int) (h1 : 5 ≤ a1 ∧ a1 ≤ 5) (w : World) : Calls Tryz.prog 6 #[.int .i64 a0, .int .i64 a1] w fun e w' => e = .returned (.bool true) ∧ Kp [] w w' := by
  obtain rfl : a0 = 18 := by omega
  obtain rfl : a1 = 5 := by omega
  exact run_bool (ds := pN18x5_dead) follows_mixed plans_ok hubDeaf.sumsG_ok (pN18x5_run) pN18x5_ok (fun i => if i = 0 then 18 else if i = 1 then 5 else 0) (fun x hx => by cases hx) (rgOk_cons (⟨Int.le_refl _, Int.le_refl _⟩) (rgOk_cons (⟨Int.le_refl _, Int.le_refl _⟩) (rgOk_nil))) (fun d hd => by simp [pN18x5_dead] at hd) (xs := [.int .i64 18, .int .i64 5]) (by rfl) w

def pN18x6_dead : List (List (SB × Bool)) := []
noncomputable def pN18x6_tree : R := fillT endT []
set_option maxRecDepth 1000000 in
theorem pN18x6_run : evCall Tryz.prog plans hubDeaf.sumsG 100000 6 [.int .i64 (.lit (.ofNat 18)), .int .i64 (.lit (.ofNat 6))] (s0 [] [[]] [((.ofNat 18), (.ofNat 18)), ((.ofNat 6), (.ofNat 6))]) finK = pN18x6_tree := by kernel_rfl
set_option maxRecDepth 1000000 in
theorem pN18x6_ok : okTree pN18x6_tree true [] pN18x6_dead = true := by kernel_rfl
theorem pN18x6_any (a0 : Int) (h0 : 18 ≤ a0 ∧ a0 ≤ 18) (a1 : Int) (h1 : 6 ≤ a1 ∧ a1 ≤ 6) (w : World) : Calls Tryz.prog 6 #[.int .i64 a0, .int .i64 a1] w fun e w' => e = .returned (.bool true) ∧ Kp [] w w' := by
  obtain rfl : a0 = 18 := by omega
  obtain rfl : a1 = 6 := by omega
  exact run_bool (ds := pN18x6_dead) follows_mixed plans_ok hubDeaf.sumsG_ok (pN18x6_run) pN18x6_ok (fun i => if i = 0 then 18 else if i = 1 then 6 else 0) (fun x hx => by cases hx) (rgOk_cons (⟨Int.le_refl _, Int.le_refl _⟩) (rgOk_cons (⟨Int.le_refl _, Int.le_refl _⟩) (rgOk_nil))) (fun d hd => by simp [pN18x6_dead] at hd) (xs := [.int .i64 18, .int .i64 6]) (by rfl) w

def pN18x7_dead : List (List (SB × Bool)) := []
noncomputable def pN18x7_tree : R := fillT endT []
set_option maxRecDepth 1000000 in
theorem pN18x7_run : evCall Tryz.prog plans hubDeaf.sumsG 100000 6 [.int .i64 (.lit (.ofNat 18)), .int .i64 (.lit (.ofNat 7))] (s0 [] [[]] [((.ofNat 18), (.ofNat 18)), ((.ofNat 7), (.ofNat 7))]) finK = pN18x7_tree := by kernel_rfl
set_option maxRecDepth 1000000 in
theorem pN18x7_ok : okTree pN18x7_tree true [] pN18x7_dead = true := by kernel_rfl
theorem pN18x7_any (a0 : Int) (h0 : 18 ≤ a0 ∧ a0 ≤ 18) (a1 : Int) (h1 : 7 ≤ a1 ∧ a1 ≤ 7) (w : World) : Calls Tryz.prog 6 #[.int .i64 a0, .int .i64 a1] w fun e w' => e = .returned (.bool true) ∧ Kp [] w w' := by
  obtain rfl : a0 = 18 := by omega
  obtain rfl : a1 = 7 := by omega
  exact run_bool (ds := pN18x7_dead) follows_mixed plans_ok hubDeaf.sumsG_ok (pN18x7_run) pN18x7_ok (fun i => if i = 0 then 18 else if i = 1 then 7 else 0) (fun x hx => by cases hx) (rgOk_cons (⟨Int.le_refl _, Int.le_refl _⟩) (rgOk_cons (⟨Int.le_refl _, Int.le_refl _⟩) (rgOk_nil))) (fun d hd => by simp [pN18x7_dead] at hd) (xs := [.int .i64 18, .int .i64 7]) (by rfl) w

def pN18x8_dead : List (List (SB × Bool)) := []
noncomputable def pN18x8_tree : R := fillT endT []
set_option maxRecDepth 1000000 in
theorem pN18x8_run : evCall Tryz.prog plans hubDeaf.sumsG 100000 6 [.int .i64 (.lit (.ofNat 18)), .int .i64 (.lit (.ofNat 8))] (s0 [] [[]] [((.ofNat 18), (.ofNat 18)), ((.ofNat 8), (.ofNat 8))]) finK = pN18x8_tree := by kernel_rfl
set_option maxRecDepth 1000000 in
theorem pN18x8_ok : okTree pN18x8_tree true [] pN18x8_dead = true := by kernel_rfl
theorem pN18x8_any (a0 : Int) (h0 : 18 ≤ a0 ∧ a0 ≤ 18) (a1 : Int) (h1 : 8 ≤ a1 ∧ a1 ≤ 8) (w : World) : Calls Tryz.prog 6 #[.int .i64 a0, .int .i64 a1] w fun e w' => e = .returned (.bool true) ∧ Kp [] w w' := by
  obtain rfl : a0 = 18 := by omega
  obtain rfl : a1 = 8 := by omega
  exact run_bool (ds := pN18x8_dead) follows_mixed plans_ok hubDeaf.sumsG_ok (pN18x8_run) pN18x8_ok (fun i => if i = 0 then 18 else if i = 1 then 8 else 0) (fun x hx => by cases hx) (rgOk_cons (⟨Int.le_refl _, Int.le_refl _⟩) (rgOk_cons (⟨Int.le_refl _, Int.le_refl _⟩) (rgOk_nil))) (fun d hd => by simp [pN18x8_dead] at hd) (xs := [.int .i64 18, .int .i64 8]) (by rfl) w

def pN18x9_dead : List (List (SB × Bool)) := []
noncomputable def pN18x9_tree : R := fillT endT []
set_option maxRecDepth 1000000 in
theorem pN18x9_run : evCall Tryz.prog plans hubDeaf.sumsG 100000 6 [.int .i64 (.lit (.ofNat 18)), .int .i64 (.lit (.ofNat 9))] (s0 [] [[]] [((.ofNat 18), (.ofNat 18)), ((.ofNat 9), (.ofNat 9))]) finK = pN18x9_tree := by kernel_rfl
set_option maxRecDepth 1000000 in
theorem pN18x9_ok : okTree pN18x9_tree true [] pN18x9_dead = true := by kernel_rfl
theorem pN18x9_any (a0 : Int) (h0 : 18 ≤ a0 ∧ a0 ≤ 18) (a1 : Int) (h1 : 9 ≤ a1 ∧ a1 ≤ 9) (w : World) : Calls Tryz.prog 6 #[.int .i64 a0, .int .i64 a1] w fun e w' => e = .returned (.bool true) ∧ Kp [] w w' := by
  obtain rfl : a0 = 18 := by omega
  obtain rfl : a1 = 9 := by omega
  exact run_bool (ds := pN18x9_dead) follows_mixed plans_ok hubDeaf.sumsG_ok (pN18x9_run) pN18x9_ok (fun i => if i = 0 then 18 else if i = 1 then 9 else 0) (fun x hx => by cases hx) (rgOk_cons (⟨Int.le_refl _, Int.le_refl _⟩) (rgOk_cons (⟨Int.le_refl _, Int.le_refl _⟩) (rgOk_nil))) (fun d hd => by simp [pN18x9_dead] at hd) (xs := [.int .i64 18, .int .i64 9]) (by rfl) w

def pN18x10_dead : List (List (SB × Bool)) := []
noncomputable def pN18x10_tree : R := fillT endT []
set_option maxRecDepth 1000000 in
theorem pN18x10_run : evCall Tryz.prog plans hubDeaf.sumsG 100000 6 [.int .i64 (.lit (.ofNat 18)), .int .i64 (.lit (.ofNat 10))] (s0 [] [[]] [((.ofNat 18), (.ofNat 18)), ((.ofNat 10), (.ofNat 10))]) finK = pN18x10_tree := by kernel_rfl
set_option maxRecDepth 1000000 in
theorem pN18x10_ok : okTree pN18x10_tree true [] pN18x10_dead = true := by kernel_rfl
theorem pN18x10_any (a0 : Int) (h0 : 18 ≤ a0 ∧ a0 ≤ 18) (a1 : Int) (h1 : 10 ≤ a1 ∧ a1 ≤ 10) (w : World) : Calls Tryz.prog 6 #[.int .i64 a0, .int .i64 a1] w fun e w' => e = .returned (.bool true) ∧ Kp [] w w' := by
  obtain rfl : a0 = 18 := by omega
  obtain rfl : a1 = 10 := by omega
  exact run_bool (ds := pN18x10_dead) follows_mixed plans_ok hubDeaf.sumsG_ok (pN18x10_run) pN18x10_ok (fun i => if i = 0 then 18 else if i = 1 then 10 else 0) (fun x hx => by cases hx) (rgOk_cons (⟨Int.le_refl _, Int.le_refl _⟩) (rgOk_cons (⟨Int.le_refl _, Int.le_refl _⟩) (rgOk_nil))) (fun d hd => by simp [pN18x10_dead] at hd) (xs := [.int .i64 18, .int .i64 10]) (by rfl) w

def pN18x11_dead : List (List (SB × Bool)) := []
noncomputable def pN18x11_tree : R := fillT endT []
set_option maxRecDepth 1000000 in
theorem pN18x11_run : evCall Tryz.prog plans hubDeaf.sumsG 100000 6 [.int .i64 (.lit (.ofNat 18)), .int .i64 (.lit (.ofNat 11))] (s0 [] [[]] [((.ofNat 18), (.ofNat 18)), ((.ofNat 11), (.ofNat 11))]) finK = pN18x11_tree := by kernel_rfl
set_option maxRecDepth 1000000 in
theorem pN18x11_ok : okTree pN18x11_tree true [] pN18x11_dead = true := by kernel_rfl
theorem pN18x11_any (a0 : Int) (h0 : 18 ≤ a0 ∧ a0 ≤ 18) (a1 : Int) (h1 : 11 ≤ a1 ∧ a1 ≤ 11) (w : World) : Calls Tryz.prog 6 #[.int .i64 a0, .int .i64 a1] w fun e w' => e = .returned (.bool true) ∧ Kp [] w w' := by
  obtain rfl : a0 = 18 := by omega
  obtain rfl : a1 = 11 := by omega
  exact run_bool (ds := pN18x11_dead) follows_mixed plans_ok hubDeaf.sumsG_ok (pN18x11_run) pN18x11_ok (fun i => if i = 0 then 18 else if i = 1 then 11 else 0) (fun x hx => by cases hx) (rgOk_cons (⟨Int.le_refl _, Int.le_refl _⟩) (rgOk_cons (⟨Int.le_refl _, Int.le_refl _⟩) (rgOk_nil))) (fun d hd => by simp [pN18x11_dead] at hd) (xs := [.int .i64 18, .int .i64 11]) (by rfl) w

def pN18x12_dead : List (List (SB × Bool)) := []
noncomputable def pN18x12_tree : R := fillT endT []
set_option maxRecDepth 1000000 in
theorem pN18x12_run : evCall Tryz.prog plans hubDeaf.sumsG 100000 6 [.int .i64 (.lit (.ofNat 18)), .int .i64 (.lit (.ofNat 12))] (s0 [] [[]] [((.ofNat 18), (.ofNat 18)), ((.ofNat 12), (.ofNat 12))]) finK = pN18x12_tree := by kernel_rfl
set_option maxRecDepth 1000000 in
theorem pN18x12_ok : okTree pN18x12_tree true [] pN18x12_dead = true := by kernel_rfl
theorem pN18x12_any (a0 : Int) (h0 : 18 ≤ a0 ∧ a0 ≤ 18) (a1 : Int) (h1 : 12 ≤ a1 ∧ a1 ≤ 12) (w : World) : Calls Tryz.prog 6 #[.int .i64 a0, .int .i64 a1] w fun e w' => e = .returned (.bool true) ∧ Kp [] w w' := by
  obtain rfl : a0 = 18 := by omega
  obtain rfl : a1 = 12 := by omega
  exact run_bool (ds := pN18x12_dead) follows_mixed plans_ok hubDeaf.sumsG_ok (pN18x12_run) pN18x12_ok (fun i => if i = 0 then 18 else if i = 1 then 12 else 0) (fun x hx => by cases hx) (rgOk_cons (⟨Int.le_refl _, Int.le_refl _⟩) (rgOk_cons (⟨Int.le_refl _, Int.le_refl _⟩) (rgOk_nil))) (fun d hd => by simp [pN18x12_dead] at hd) (xs := [.int .i64 18, .int .i64 12]) (by rfl) w

def pN18x13_dead : List (List (SB × Bool)) := []
noncomputable def pN18x13_tree : R := fillT endT []
set_option maxRecDepth 1000000 in
theorem pN18x13_run : evCall Tryz.prog plans hubDeaf.sumsG 100000 6 [.int .i64 (.lit (.ofNat 18)), .int .i64 (.lit (.ofNat 13))] (s0 [] [[]] [((.ofNat 18), (.ofNat 18)), ((.ofNat 13), (.ofNat 13))]) finK = pN18x13_tree := by kernel_rfl
set_option maxRecDepth 1000000 in
theorem pN18x13_ok : okTree pN18x13_tree true [] pN18x13_dead = true := by kernel_rfl
theorem pN18x13_any (a0 : Int) (h0 : 18 ≤ a0 ∧ a0 ≤ 18) (a1 : Int) (h1 : 13 ≤ a1 ∧ a1 ≤ 13) (w : World) : Calls Tryz.prog 6 #[.int .i64 a0, .int .i64 a1] w fun e w' => e = .returned (.bool true) ∧ Kp [] w w' := by
  obtain rfl : a0 = 18 := by omega
  obtain rfl : a1 = 13 := by omega
  exact run_bool (ds := pN18x13_dead) follows_mixed plans_ok hubDeaf.sumsG_ok (pN18x13_run) pN18x13_ok (fun i => if i = 0 then 18 else if i = 1 then 13 else 0) (fun x hx => by cases hx) (rgOk_cons (⟨Int.le_refl _, Int.le_refl _⟩) (rgOk_cons (⟨Int.le_refl _, Int.le_refl _⟩) (rgOk_nil))) (fun d hd => by simp [pN18x13_dead] at hd) (xs := [.int .i64 18, .int .i64 13]) (by rfl) w

def pN18x14_dead : List (List (SB × Bool)) := []
noncomputable def pN18x14_tree : R := fillT endT []
set_option maxRecDepth 1000000 in
theorem pN18x14_run : evCall Tryz.prog plans hubDeaf.sumsG 100000 6 [.int .i64 (.lit (.ofNat 18)), .int .i64 (.lit (.ofNat 14))] (s0 [] [[]] [((.ofNat 18), (.ofNat 18)), ((.ofNat 14), (.ofNat 14))]) finK = pN18x14_tree := by kernel_rfl
set_option maxRecDepth 1000000 in
theorem pN18x14_ok : okTree pN18x14_tree true [] pN18x14_dead = true := by kernel_rfl
theorem pN18x14_any (a0 : Int) (h0 : 18 ≤ a0 ∧ a0 ≤ 18) (a1 : Int) (h1 : 14 ≤ a1 ∧ a1 ≤ 14) (w : World) : Calls Tryz.prog 6 #[.int .i64 a0, .int .i64 a1] w fun e w' => e = .returned (.bool true) ∧ Kp [] w w' := by
  obtain rfl : a0 = 18 := by omega
  obtain rfl : a1 = 14 := by omega
  exact run_bool (ds := pN18x14_dead) follows_mixed plans_ok hubDeaf.sumsG_ok (pN18x14_run) pN18x14_ok (fun i => if i = 0 then 18 else if i = 1 then 14 else 0) (fun x hx => by cases hx) (rgOk_cons (⟨Int.le_refl _, Int.le_refl _⟩) (rgOk_cons (⟨Int.le_refl _, Int.le_refl _⟩) (rgOk_nil))) (fun d hd => by simp [pN18x14_dead] at hd) (xs := [.int .i64 18, .int .i64 14]) (by rfl) w

def pN18x15_dead : List (List (SB × Bool)) := []
noncomputable def pN18x15_tree : R := fillT endT []
set_option maxRecDepth 1000000 in
theorem pN18x15_run : evCall Tryz.prog plans hubDeaf.sumsG 100000 6 [.int .i64 (.lit (.ofNat 18)), .int .i64 (.lit (.ofNat 15))] (s0 [] [[]] [((.ofNat 18), (.ofNat 18)), ((.ofNat 15), (.ofNat 15))]) finK = pN18x15_tree := by kernel_rfl
set_option maxRecDepth 1000000 in
theorem pN18x15_ok : okTree pN18x15_tree true [] pN18x15_dead = true := by kernel_rfl
theorem pN18x15_any (a0 : Int) (h0 : 18 ≤ a0 ∧ a0 ≤ 18) (a1 : Int) (h1 : 15 ≤ a1 ∧ a1 ≤ 15) (w : World) : Calls Tryz.prog 6 #[.int .i64 a0, .int .i64 a1] w fun e w' => e = .returned (.bool true) ∧ Kp [] w w' := by
  obtain rfl : a0 = 18 := by omega
  obtain rfl : a1 = 15 := by omega
  exact run_bool (ds := pN18x15_dead) follows_mixed plans_ok hubDeaf.sumsG_ok (pN18x15_run) pN18x15_ok (fun i => if i = 0 then 18 else if i = 1 then 15 else 0) (fun x hx => by cases hx) (rgOk_cons (⟨Int.le_refl _, Int.le_refl _⟩) (rgOk_cons (⟨Int.le_refl _, Int.le_refl _⟩) (rgOk_nil))) (fun d hd => by simp [pN18x15_dead] at hd) (xs := [.int .i64 18, .int .i64 15]) (by rfl) w

def pN18x16_dead : List (List (SB × Bool)) := []
noncomputable def pN18x16_tree : R := fillT endT []
set_option maxRecDepth 1000000 in
theorem pN18x16_run : evCall Tryz.prog plans hubDeaf.sumsG 100000 6 [.int .i64 (.lit (.ofNat 18)), .int .i64 (.lit (.ofNat 16))] (s0 [] [[]] [((.ofNat 18), (.ofNat 18)), ((.ofNat 16), (.ofNat 16))]) finK = pN18x16_tree := by kernel_rfl
set_option maxRecDepth 1000000 in
theorem pN18x16_ok : okTree pN18x16_tree true [] pN18x16_dead = true := by kernel_rfl
theorem pN18x16_any (a0 : Int) (h0 : 18 ≤ a0 ∧ a0 ≤ 18) (a1 : Int) (h1 : 16 ≤ a1 ∧ a1 ≤ 16) (w : World) : Calls Tryz.prog 6 #[.int .i64 a0, .int .i64 a1] w fun e w' => e = .returned (.bool true) ∧ Kp [] w w' := by
  obtain rfl : a0 = 18 := by omega
  obtain rfl : a1 = 16 := by omega
  exact run_bool (ds := pN18x16_dead) follows_mixed plans_ok hubDeaf.sumsG_ok (pN18x16_run) pN18x16_ok (fun i => if i = 0 then 18 else if i = 1 then 16 else 0) (fun x hx => by cases hx) (rgOk_cons (⟨Int.le_refl _, Int.le_refl _⟩) (rgOk_cons (⟨Int.le_refl _, Int.le_refl _⟩) (rgOk_nil))) (fun d hd => by simp [pN18x16_dead] at hd) (xs := [.int .i64 18, .int .i64 16]) (by rfl) w

def pN18x17_dead : List (List (SB × Bool)) := []
noncomputable def pN18x17_tree : R := fillT endT []
set_option maxRecDepth 1000000 in
theorem pN18x17_run : evCall Tryz.prog plans hubDeaf.sumsG 100000 6 [.int .i64 (.lit (.ofNat 18)), .int .i64 (.lit (.ofNat 17))] (s0 [] [[]] [((.ofNat 18), (.ofNat 18)), ((.ofNat 17), (.ofNat 17))]) finK = pN18x17_tree := by kernel_rfl
set_option maxRecDepth 1000000 in
theorem pN18x17_ok : okTree pN18x17_tree true [] pN18x17_dead = true := by kernel_rfl
theorem pN18x17_any (a0 : Int) (h0 : 18 ≤ a0 ∧ a0 ≤ 18) (a1 : Int) (h1 : 17 ≤ a1 ∧ a1 ≤ 17) (w : World) : Calls Tryz.prog 6 #[.int .i64 a0, .int .i64 a1] w fun e w' => e = .returned (.bool true) ∧ Kp [] w w' := by
  obtain rfl : a0 = 18 := by omega
  obtain rfl : a1 = 17 := by omega
  exact run_bool (ds := pN18x17_dead) follows_mixed plans_ok hubDeaf.sumsG_ok (pN18x17_run) pN18x17_ok (fun i => if i = 0 then 18 else if i = 1 then 17 else 0) (fun x hx => by cases hx) (rgOk_cons (⟨Int.le_refl _, Int.le_refl _⟩) (rgOk_cons (⟨Int.le_refl _, Int.le_refl _⟩) (rgOk_nil))) (fun d hd => by simp [pN18x17_dead] at hd) (xs := [.int .i64 18, .int .i64 17]) (by rfl) w

def pN18x18_dead : List (List (SB × Bool)) := []
noncomputable def pN18x18_tree : R := fillT endT []
set_option maxRecDepth 1000000 in
theorem pN18x18_run : evCall Tryz.prog plans hubDeaf.sumsG 100000 6 [.int .i64 (.lit (.ofNat 18)), .int .i64 (.lit (.ofNat 18))] (s0 [] [[]] [((.ofNat 18), (.ofNat 18)), ((.ofNat 18), (.ofNat 18))]) finK = pN18x18_tree := by kernel_rfl
set_option maxRecDepth 1000000 in
theorem pN18x18_ok : okTree pN18x18_tree true [] pN18x18_dead = true := by kernel_rfl
theorem pN18x18_any (a0 : Int) (h0 : 18 ≤ a0 ∧ a0 ≤ 18) (a1 : Int) (h1 : 18 ≤ a1 ∧ a1 ≤ 18) (w : World) : Calls Tryz.prog 6 #[.int .i64 a0, .int .i64 a1] w fun e w' => e = .returned (.bool true) ∧ Kp [] w w' := by
  obtain rfl : a0 = 18 := by omega
  obtain rfl : a1 = 18 := by omega
  exact run_bool (ds := pN18x18_dead) follows_mixed plans_ok hubDeaf.sumsG_ok (pN18x18_run) pN18x18_ok (fun i => if i = 0 then 18 else if i = 1 then 18 else 0) (fun x hx => by cases hx) (rgOk_cons (⟨Int.le_refl _, Int.le_refl _⟩) (rgOk_cons (⟨Int.le_refl _, Int.le_refl _⟩) (rgOk_nil))) (fun d hd => by simp [pN18x18_dead] at hd) (xs := [.int .i64 18, .int .i64 18]) (by rfl) w

def pN19x0_dead : List (List (SB × Bool)) := []
noncomputable def pN19x0_tree : R := fillT endT []
set_option maxRecDepth 1000000 in
theorem pN19x0_run : evCall Tryz.prog plans hubDeaf.sumsG 100000 6 [.int .i64 (.lit (.ofNat 19)), .int .i64 (.lit (.ofNat 0))] (s0 [] [[]] [((.ofNat 19), (.ofNat 19)), ((.ofNat 0), (.ofNat 0))]) finK = pN19x0_tree := by kernel_rfl
set_option maxRecDepth 1000000 in
theorem pN19x0_ok : okTree pN19x0_tree true [] pN19x0_dead = true := by kernel_rfl
theorem pN19x0_any (a0 : Int) (h0 : 19 ≤ a0 ∧ a0 ≤ 19) (a1 : Int) (h1 : 0 ≤ a1 ∧ a1 ≤ 0) (w : World) : Calls Tryz.prog 6 #[.int .i64 a0, .int .i64 a1] w fun e w' => e = .returned (.bool true) ∧ Kp [] w w' := by
  obtain rfl : a0 = 19 := by omega
  obtain rfl : a1 = 0 := by omega
  exact run_bool (ds := pN19x0_dead) follows_mixed plans_ok hubDeaf.sumsG_ok (pN19x0_run) pN19x0_ok (fun i => if i = 0 then 19 else if i = 1 then 0 else 0) (fun x hx => by cases hx) (rgOk_cons (⟨Int.le_refl _, Int.le_refl _⟩) (rgOk_cons (⟨Int.le_refl _, Int.le_refl _⟩) (rgOk_nil))) (fun d hd => by simp [pN19x0_dead] at hd) (xs := [.int .i64 19, .int .i64 0]) (by rfl) w

def pN19x1_dead : List (List (SB × Bool)) := []
noncomputable def pN19x1_tree : R := fillT endT []
set_option maxRecDepth 1000000 in
theorem pN19x1_run : evCall Tryz.prog plans hubDeaf.sumsG 100000 6 [.int .i64 (.lit (.ofNat 19)), .int .i64 (.lit (.ofNat 1))] (s0 [] [[]] [((.ofNat 19), (.ofNat 19)), ((.ofNat 1), (.ofNat 1))]) finK = pN19x1_tree := by kernel_rfl
set_option maxRecDepth 1000000 in
theorem pN19x1_ok : okTree pN19x1_tree true [] pN19x1_dead = true := by kernel_rfl
theorem pN19x1_any (a0 : Int) (h0 : 19 ≤ a0 ∧ a0 ≤ 19) (a1 : Int) (h1 : 1 ≤ a1 ∧ a1 ≤ 1) (w : World) : Calls Tryz.prog 6 #[.int .i64 a0, .int .i64 a1] w fun e w' => e = .returned (.bool true) ∧ Kp [] w w' := by
  obtain rfl : a0 = 19 := by omega
  obtain rfl : a1 = 1 := by omega
  exact run_bool (ds := pN19x1_dead) follows_mixed plans_ok hubDeaf.sumsG_ok (pN19x1_run) pN19x1_ok (fun i => if i = 0 then 19 else if i = 1 then 1 else 0) (fun x hx => by cases hx) (rgOk_cons (⟨Int.le_refl _, Int.le_refl _⟩) (rgOk_cons (⟨Int.le_refl _, Int.le_refl _⟩) (rgOk_nil))) (fun d hd => by simp [pN19x1_dead] at hd) (xs := [.int .i64 19, .int .i64 1]) (by rfl) w

end Go.Proofs.YtlmpmmcefdhgmaaGreat.hubDeaf

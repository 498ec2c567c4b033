/-
  HubDeaf: runs, N13x5, N13x6, N13x7, N13x8, N13x9, N13x10, N13x11, N13x12, N13x13, N14x0, N14x1, N14x2, N14x3, N14x4, N14x5, N14x6, N14x7, N14x8, N14x9, N14x10, N14x11, N14x12, N14x13, N14x14, N15x0, N15x1, N15x2, N15x3, N15x4, N15x5, N15x6, N15x7.
-/
import Derived.Test.YtlmpmmcefdhgmaaGreatSgDS
import Derived.Test.YtlmpmmcefdhgmaaGreatRs
import Derived.Test.YtlmpmmcefdhgmaaGreatPlsOk
set_option linter.unusedVariables false
set_option linter.unusedSimpArgs false
namespace Go.Proofs.YtlmpmmcefdhgmaaGreat.hubDeaf
open Go

def pN13x5_dead : List (List (SB × Bool)) := []
noncomputable def pN13x5_tree : R := fillT endT []
set_option maxRecDepth 1000000 in
theorem pN13x5_run : evCall Tryz.prog plans hubDeaf.sumsG 100000 6 [.int .i64 (.lit (.ofNat 13)), .int .i64 (.lit (.ofNat 5))] (s0 [] [[]] [((.ofNat 13), (.ofNat 13)), ((.ofNat 5), (.ofNat 5))]) finK = pN13x5_tree := by kernel_rfl
set_option maxRecDepth 1000000 in
theorem pN13x5_ok : okTree pN13x5_tree true [] pN13x5_dead = true := by kernel_rfl
theorem pN13x5_any (a0 : Int) (h0 : 13 ≤ a0 ∧ a0 ≤ 13) (a1 : Int) (h1 : 5 ≤ a1 ∧ a1 ≤ 5) (w : World) : Calls Tryz.prog 6 #[.int .i64 a0, .int .i64 a1] w fun e w' => e = .returned (.bool true) ∧ Kp [] w w' := by
  obtain rfl : a0 = 13 := by omega
  obtain rfl : a1 = 5 := by omega
  exact run_bool (ds := pN13x5_dead) follows_mixed plans_ok hubDeaf.sumsG_ok (pN13x5_run) pN13x5_ok (fun i => if i = 0 then 13 else if i = 1 then 5 else 0) (fun x hx => by cases hx) (rgOk_cons (⟨Int.le_refl _, Int.le_refl _⟩) (rgOk_cons (⟨Int.le_refl _, Int.le_refl _⟩) (rgOk_nil))) (fun d hd => by simp [pN13x5_dead] at hd) (xs := [.int .i64 13, .int .i64 5]) (by rfl) w

def pN13x6_dead : List (List (SB × Bool)) := []
noncomputable def pN13x6_tree : R := fillT endT []
set_option maxRecDepth 1000000 in
theorem pN13x6_run : evCall Tryz.prog plans hubDeaf.sumsG 100000 6 [.int .i64 (.lit (.ofNat 13)), .int .i64 (.lit (.ofNat 6))] (s0 [] [[]] [((.ofNat 13), (.ofNat 13)), ((.ofNat 6), (.ofNat 6))]) finK = pN13x6_tree := by kernel_rfl
set_option maxRecDepth 1000000 in
theorem pN13x6_ok : okTree pN13x6_tree true [] pN13x6_dead = true := by kernel_rfl
theorem pN13x6_any (a0 : Int) (h0 : 13 ≤ a0 ∧ a0 ≤ 13) (a1 : Int) (h1 : 6 ≤ a1 ∧ a1 ≤ 6) (w : World) : Calls Tryz.prog 6 #[.int .i64 a0, .int .i64 a1] w fun e w' => e = .returned (.bool true) ∧ Kp [] w w' := by
  obtain rfl : a0 = 13 := by omega
  obtain rfl : a1 = 6 := by omega
  exact run_bool (ds := pN13x6_dead) follows_mixed plans_ok hubDeaf.sumsG_ok (pN13x6_run) pN13x6_ok (fun i => if i = 0 then 13 else if i = 1 then 6 else 0) (fun x hx => by cases hx) (rgOk_cons (⟨Int.le_refl _, Int.le_refl _⟩) (rgOk_cons (⟨Int.le_refl _, Int.le_refl _⟩) (rgOk_nil))) (fun d hd => by simp [pN13x6_dead] at hd) (xs := [.int .i64 13, .int .i64 6]) (by rfl) w

def pN13x7_dead : List (List (SB × Bool)) := []
noncomputable def pN13x7_tree : R := fillT endT []
set_option maxRecDepth 1000000 in
theorem pN13x7_run : evCall Tryz.prog plans hubDeaf.sumsG 100000 6 [.int .i64 (.lit (.ofNat 13)), .int .i64 (.lit (.ofNat 7))] (s0 [] [[]] [((.ofNat 13), (.ofNat 13)), ((.ofNat 7), (.ofNat 7))]) finK = pN13x7_tree := by kernel_rfl
set_option maxRecDepth 1000000 in
theorem pN13x7_ok : okTree pN13x7_tree true [] pN13x7_dead = true := by kernel_rfl
theorem pN13x7_any (a0 : Int) (h0 : 13 ≤ a0 ∧ a0 ≤ 13) (a1 : Int) (h1 : 7 ≤ a1 ∧ a1 ≤ 7) (w : World) : Calls Tryz.prog 6 #[.int .i64 a0, .int .i64 a1] w fun e w' => e = .returned (.bool true) ∧ Kp [] w w' := by
  obtain rfl : a0 = 13 := by omega
  obtain rfl : a1 = 7 := by omega
  exact run_bool (ds := pN13x7_dead) follows_mixed plans_ok hubDeaf.sumsG_ok (pN13x7_run) pN13x7_ok (fun i => if i = 0 then 13 else if i = 1 then 7 else 0) (fun x hx => by cases hx) (rgOk_cons (⟨Int.le_refl _, Int.le_refl _⟩) (rgOk_cons (⟨Int.le_refl _, Int.le_refl _⟩) (rgOk_nil))) (fun d hd => by simp [pN13x7_dead] at hd) (xs := [.int .i64 13, .int .i64 7]) (by rfl) w

def pN13x8_dead : List (List (SB × Bool)) := []
noncomputable def pN13x8_tree : R := fillT endT []
set_option maxRecDepth 1000000 in
theorem pN13x8_run : evCall Tryz.prog plans hubDeaf.sumsG 100000 6 [.int .i64 (.lit (.ofNat 13)), .int .i64 (.lit (.ofNat 8))] (s0 [] [[]] [((.ofNat 13), (.ofNat 13)), ((.ofNat 8), (.ofNat 8))]) finK = pN13x8_tree := by kernel_rfl
set_option maxRecDepth 1000000 in
theorem pN13x8_ok : okTree pN13x8_tree true [] pN13x8_dead = true := by kernel_rfl
theorem pN13x8_any (a0 : Int) (h0 : 13 ≤ a0 ∧ a0 ≤ 13) (a1 : Int) (h1 : 8 ≤ a1 ∧ a1 ≤ 8) (w : World) : Calls Tryz.prog 6 #[.int .i64 a0, .int .i64 a1] w fun e w' => e = .returned (.bool true) ∧ Kp [] w w' := by
  obtain rfl : a0 = 13 := by omega
  obtain rfl : a1 = 8 := by omega
  exact run_bool (ds := pN13x8_dead) follows_mixed plans_ok hubDeaf.sumsG_ok (pN13x8_run) pN13x8_ok (fun i => if i = 0 then 13 else if i = 1 then 8 else 0) (fun x hx => by cases hx) (rgOk_cons (⟨Int.le_refl _, Int.le_refl _⟩) (rgOk_cons (⟨Int.le_refl _, Int.le_refl _⟩) (rgOk_nil))) (fun d hd => by simp [pN13x8_dead] at hd) (xs := [.int .i64 13, .int .i64 8]) (by rfl) w

def pN13x9_dead : List (List (SB × Bool)) := []
noncomputable def pN13x9_tree : R := fillT endT []
set_option maxRecDepth 1000000 in
theorem pN13x9_run : evCall Tryz.prog plans hubDeaf.sumsG 100000 6 [.int .i64 (.lit (.ofNat 13)), .int .i64 (.lit (.ofNat 9))] (s0 [] [[]] [((.ofNat 13), (.ofNat 13)), ((.ofNat 9), (.ofNat 9))]) finK = pN13x9_tree := by kernel_rfl
set_option maxRecDepth 1000000 in
theorem pN13x9_ok : okTree pN13x9_tree true [] pN13x9_dead = true := by kernel_rfl
theorem pN13x9_any (a0 : Int) (h0 : 13 ≤ a0 ∧ a0 ≤ 13) (a1 : Int) (h1 : 9 ≤ a1 ∧ a1 ≤ 9) (w : World) : Calls Tryz.prog 6 #[.int .i64 a0, .int .i64 a1] w fun e w' => e = .returned (.bool true) ∧ Kp [] w w' := by
  obtain rfl : a0 = 13 := by omega
  obtain rfl : a1 = 9 := by omega
  exact run_bool (ds := pN13x9_dead) follows_mixed plans_ok hubDeaf.sumsG_ok (pN13x9_run) pN13x9_ok (fun i => if i = 0 then 13 else if i = 1 then 9 else 0) (fun x hx => by cases hx) (rgOk_cons (⟨Int.le_refl _, Int.le_refl _⟩) (rgOk_cons (⟨Int.le_refl _, Int.le_refl _⟩) (rgOk_nil))) (fun d hd => by simp [pN13x9_dead] at hd) (xs := [.int .i64 13, .int .i64 9]) (by rfl) w

def pN13x10_dead : List (List (SB × Bool)) := []
noncomputable def pN13x10_tree : R := fillT endT []
set_option maxRecDepth 1000000 in
theorem pN13x10_run : evCall Tryz.prog plans hubDeaf.sumsG 100000 6 [.int .i64 (.lit (.ofNat 13)), .int .i64 (.lit (.ofNat 10))] (s0 [] [[]] [((.ofNat 13), (.ofNat 13)), ((.ofNat 10), (.ofNat 10))]) finK = pN13x10_tree := by kernel_rfl
set_option maxRecDepth 1000000 in
theorem pN13x10_ok : okTree pN13x10_tree true [] pN13x10_dead = true := by kernel_rfl
theorem pN13x10_any (a0 : Int) (h0 : 13 ≤ a0 ∧ a0 ≤ 13) (a1 : Int) (h1 : 10 ≤ a1 ∧ a1 ≤ 10) (w : World) : Calls Tryz.prog 6 #[.int .i64 a0, .int .i64 a1] w fun e w' => e = .returned (.bool true) ∧ Kp [] w w' := by
  obtain rfl : a0 = 13 := by omega
  obtain rfl : a1 = 10 := by omega
  exact run_bool (ds := pN13x10_dead) follows_mixed plans_ok hubDeaf.sumsG_ok (pN13x10_run) pN13x10_ok (fun i => if i = 0 then 13 else if i = 1 then 10 else 0) (fun x hx => by cases hx) (rgOk_cons (⟨Int.le_refl _, Int.le_refl _⟩) (rgOk_cons (⟨Int.le_refl _, Int.le_refl _⟩) (rgOk_nil))) (fun d hd => by simp [pN13x10_dead] at hd) (xs := [.int .i64 13, .int .i64 10]) (by rfl) w

def pN13x11_dead : List (List (SB × Bool)) := []
noncomputable def pN13x11_tree : R := fillT endT []
set_option maxRecDepth 1000000 in
theorem pN13x11_run : evCall Tryz.prog plans hubDeaf.sumsG 100000 6 [.int .i64 (.lit (.ofNat 13)), .int .i64 (.lit (.ofNat 11))] (s0 [] [[]] [((.ofNat 13), (.ofNat 13)), ((.ofNat 11), (.ofNat 11))]) finK = pN13x11_tree := by kernel_rfl
set_option maxRecDepth 1000000 in
theorem pN13x11_ok : okTree pN13x11_tree true [] pN13x11_dead = true := by kernel_rfl
theorem pN13x11_any (a0 : Int) (h0 : 13 ≤ a0 ∧ a0 ≤ 13) (a1 : Int) (h1 : 11 ≤ a1 ∧ a1 ≤ 11) (w : World) : Calls Tryz.prog 6 #[.int .i64 a0, .int .i64 a1] w fun e w' => e = .returned (.bool true) ∧ Kp [] w w' := by
  obtain rfl : a0 = 13 := by omega
  obtain rfl : a1 = 11 := by omega
  exact run_bool (ds := pN13x11_dead) follows_mixed plans_ok hubDeaf.sumsG_ok (pN13x11_run) pN13x11_ok (fun i => if i = 0 then 13 else if i = 1 then 11 else 0) (fun x hx => by cases hx) (rgOk_cons (⟨Int.le_refl _, Int.le_refl _⟩) (rgOk_cons (⟨Int.le_refl _, Int.le_refl _⟩) (rgOk_nil))) (fun d hd => by simp [pN13x11_dead] at hd) (xs := [.int .i64 13, .int .i64 11]) (by rfl) w

def pN13x12_dead : List (List (SB × Bool)) := []
noncomputable def pN13x12_tree : R := fillT endT []
set_option maxRecDepth 1000000 in
theorem pN13x12_run : evCall Tryz.prog plans hubDeaf.sumsG 100000 6 [.int .i64 (.lit (.ofNat 13)), .int .i64 (.lit (.ofNat 12))] (s0 [] [[]] [((.ofNat 13), (.ofNat 13)), ((.ofNat 12), (.ofNat 12))]) finK = pN13x12_tree := by kernel_rfl
set_option maxRecDepth 1000000 in
theorem pN13x12_ok : okTree pN13x12_tree true [] pN13x12_dead = true := by kernel_rfl
theorem pN13x12_any (a0 : Int) (h0 : 13 ≤ a0 ∧ a0 ≤ 13) (a1 : Int) (h1 : 12 ≤ a1 ∧ a1 ≤ 12) (w : World) : Calls Tryz.prog 6 #[.int .i64 a0, .int .i64 a1] w fun e w' => e = .returned (.bool true) ∧ Kp [] w w' := by
  obtain rfl : a0 = 13 := by omega
  obtain rfl : a1 = 12 := by omega
  exact run_bool (ds := pN13x12_dead) follows_mixed plans_ok hubDeaf.sumsG_ok (pN13x12_run) pN13x12_ok (fun i => if i = 0 then 13 else if i = 1 then 12 else 0) (fun x hx => by cases hx) (rgOk_cons (⟨Int.le_refl _, Int.le_refl _⟩) (rgOk_cons (⟨Int.le_refl _, Int.le_refl _⟩) (rgOk_nil))) (fun d hd => by simp [pN13x12_dead] at hd) (xs := [.int .i64 13, .int .i64 12]) (by rfl) w

def pN13x13_dead : List (List (SB × Bool)) := []
noncomputable def pN13x13_tree : R := fillT endT []
set_option maxRecDepth 1000000 in
theorem pN13x13_run : evCall Tryz.prog plans hubDeaf.sumsG 100000 6 [.int .i64 (.lit (.ofNat 13)), .int .i64 (.lit (.ofNat 13))] (s0 [] [[]] [((.ofNat 13), (.ofNat 13)), ((.ofNat 13), (.ofNat 13))]) finK = pN13x13_tree := by kernel_rfl
set_option maxRecDepth 1000000 in
theorem pN13x13_ok : okTree pN13x13_tree true [] pN13x13_dead = true := by kernel_rfl
theorem pN13x13_any (a0 : Int) (h0 : 13 ≤ a0 ∧ a0 ≤ 13) (a1 : Int) (h1 : 13 ≤ a1 ∧ a1 ≤ 13) (w : World) : Calls Tryz.prog 6 #[.int .i64 a0, .int .i64 a1] w fun e w' => e = .returned (.bool true) ∧ Kp [] w w' := by
  obtain rfl : a0 = 13 := by omega
  obtain rfl : a1 = 13 := by omega
  exact run_bool (ds := pN13x13_dead) follows_mixed plans_ok hubDeaf.sumsG_ok (pN13x13_run) pN13x13_ok (fun i => if i = 0 then 13 else if i = 1 then 13 else 0) (fun x hx => by cases hx) (rgOk_cons (⟨Int.le_refl _, Int.le_refl _⟩) (rgOk_cons (⟨Int.le_refl _, Int.le_refl _⟩) (rgOk_nil))) (fun d hd => by simp [pN13x13_dead] at hd) (xs := [.int .i64 13, .int .i64 13]) (by rfl) w

def pN14x0_dead : List (List (SB × Bool)) := []
noncomputable def pN14x0_tree : R := fillT endT []
set_option maxRecDepth 1000000 in
theorem pN14x0_run : evCall Tryz.prog plans hubDeaf.sumsG 100000 6 [.int .i64 (.lit (.ofNat 14)), .int .i64 (.lit (.ofNat 0))] (s0 [] [[]] [((.ofNat 14), (.ofNat 14)), ((.ofNat 0), (.ofNat 0))]) finK = pN14x0_tree := by kernel_rfl
set_option maxRecDepth 1000000 in
theorem pN14x0_ok : okTree pN14x0_tree true [] pN14x0_dead = true := by kernel_rfl
theorem pN14x0_any (a0 : Int) (h0 : 14 ≤ a0 ∧ a0 ≤ 14) (a1 : Int) (h1 : 0 ≤ a1 ∧ a1 ≤ 0) (w : World) : Calls Tryz.prog 6 #[.int .i64 a0, .int .i64 a1] w fun e w' => e = .returned (.bool true) ∧ Kp [] w w' := by
  obtain rfl : a0 = 14 := by omega
  obtain rfl : a1 = 0 := by omega
  exact run_bool (ds := pN14x0_dead) follows_mixed plans_ok hubDeaf.sumsG_ok (pN14x0_run) pN14x0_ok (fun i => if i = 0 then 14 else if i = 1 then 0 else 0) (fun x hx => by cases hx) (rgOk_cons (⟨Int.le_refl _, Int.le_refl _⟩) (rgOk_cons (⟨Int.le_refl _, Int.le_refl _⟩) (rgOk_nil))) (fun d hd => by simp [pN14x0_dead] at hd) (xs := [.int .i64 14, .int .i64 0]) (by rfl) w

def pN14x1_dead : List (List (SB × Bool)) := []
noncomputable def pN14x1_tree : R := fillT endT []
set_option maxRecDepth 1000000 in
theorem pN14x1_run : evCall Tryz.prog plans hubDeaf.sumsG 100000 6 [.int .i64 (.lit (.ofNat 14)), .int .i64 (.lit (.ofNat 1))] (s0 [] [[]] [((.ofNat 14), (.ofNat 14)), ((.ofNat 1), (.ofNat 1))]) finK = pN14x1_tree := by kernel_rfl
set_option maxRecDepth 1000000 in
theorem pN14x1_ok : okTree pN14x1_tree true [] pN14x1_dead = true := by kernel_rfl
theorem pN14x1_any (a0 : Int) (h0 : 14 ≤ a0 ∧ a0 ≤ 14) (a1 : Int) (h1 : 1 ≤ a1 ∧ a1 ≤ 1) (w : World) : Calls Tryz.prog 6 #[.int .i64 a0, .int .i64 a1] w fun e w' => e = .returned (.bool true) ∧ Kp [] w w' := by
  obtain rfl : a0 = 14 := by omega
  obtain rfl : a1 = 1 := by omega
  exact run_bool (ds := pN14x1_dead) follows_mixed plans_ok hubDeaf.sumsG_ok (pN14x1_run) pN14x1_ok (fun i => if i = 0 then 14 else if i = 1 then 1 else 0) (fun x hx => by cases hx) (rgOk_cons (⟨Int.le_refl _, Int.le_refl _⟩) (rgOk_cons (⟨Int.le_refl _, Int.le_refl _⟩) (rgOk_nil))) (fun d hd => by simp [pN14x1_dead] at hd) (xs := [.int .i64 14, .int .i64 1]) (by rfl) w

def pN14x2_dead : List (List (SB × Bool)) := []
noncomputable def pN14x2_tree : R := fillT endT []
set_option maxRecDepth 1000000 in
theorem pN14x2_run : evCall Tryz.prog plans hubDeaf.sumsG 100000 6 [.int .i64 (.lit (.ofNat 14)), .int .i64 (.lit (.ofNat 2))] (s0 [] [[]] [((.ofNat 14), (.ofNat 14)), ((.ofNat 2), (.ofNat 2))]) finK = pN14x2_tree := by kernel_rfl
set_option maxRecDepth 1000000 in
theorem pN14x2_ok : okTree pN14x2_tree true [] pN14x2_dead = true := by kernel_rfl
theorem pN14x2_any (a0 : Int) (h0 : 14 ≤ a0 ∧ a0 ≤ 14) (a1 : Int) (h1 : 2 ≤ a1 ∧ a1 ≤ 2) (w : World) : Calls Tryz.prog 6 #[.int .i64 a0, .int .i64 a1] w fun e w' => e = .returned (.bool true) ∧ Kp [] w w' := by
  obtain rfl : a0 = 14 := by omega
  obtain rfl : a1 = 2 := by omega
  exact run_bool (ds := pN14x2_dead) follows_mixed plans_ok hubDeaf.sumsG_ok (pN14x2_run) pN14x2_ok (fun i => if i = 0 then 14 else if i = 1 then 2 else 0) (fun x hx => by cases hx) (rgOk_cons (⟨Int.le_refl _, Int.le_refl _⟩) (rgOk_cons (⟨Int.le_refl _, Int.le_refl _⟩) (rgOk_nil))) (fun d hd => by simp [pN14x2_dead] at hd) (xs := [.int .i64 14, .int .i64 2]) (by rfl) w

def pN14x3_dead : List (List (SB × Bool)) := []
noncomputable def pN14x3_tree : R := fillT endT []
set_option maxRecDepth 1000000 in
theorem pN14x3_run : evCall Tryz.prog plans hubDeaf.sumsG 100000 6 [.int .i64 (.lit (.ofNat 14)), .int .i64 (.lit (.ofNat 3))] (s0 [] [[]] [((.ofNat 14), (.ofNat 14)), ((.ofNat 3), (.ofNat 3))]) finK = pN14x3_tree := by kernel_rfl
set_option maxRecDepth 1000000 in
theorem pN14x3_ok : okTree pN14x3_tree true [] pN14x3_dead = true := by kernel_rfl
theorem pN14x3_any (a0 : Int) (h0 : 14 ≤ a0 ∧ a0 ≤ 14) (a1 : Int) (h1 : 3 ≤ a1 ∧ a1 ≤ 3) (w : World) : Calls Tryz.prog 6 #[.int .i64 a0, .int .i64 a1] w fun e w' => e = .returned (.bool true) ∧ Kp [] w w' := by
  obtain rfl : a0 = 14 := by omega
  obtain rfl : a1 = 3 := by omega
  exact run_bool (ds := pN14x3_dead) follows_mixed plans_ok hubDeaf.sumsG_ok (pN14x3_run) pN14x3_ok (fun i => if i = 0 then 14 else if i = 1 then 3 else 0) (fun x hx => by cases hx) (rgOk_cons (⟨Int.le_refl _, Int.le_refl _⟩) (rgOk_cons (⟨Int.le_refl _, Int.le_refl _⟩) (rgOk_nil))) (fun d hd => by simp [pN14x3_dead] at hd) (xs := [.int .i64 14, .int .i64 3]) (by rfl) w

def pN14x4_dead : List (List (SB × Bool)) := []
noncomputable def pN14x4_tree : R := fillT endT []
set_option maxRecDepth 1000000 in
theorem pN14x4_run : evCall Tryz.prog plans hubDeaf.sumsG 100000 6 [.int .i64 (.lit (.ofNat 14)), .int .i64 (.lit (.ofNat 4))] (s0 [] [[]] [((.ofNat 14), (.ofNat 14)), ((.ofNat 4), (.ofNat 4))]) finK = pN14x4_tree := by kernel_rfl
set_option maxRecDepth 1000000 in
theorem pN14x4_ok : okTree pN14x4_tree true [] pN14x4_dead = true := by kernel_rfl
theorem pN14x4_any (a0 : Int) (h0 : 14 ≤ a0 ∧ a0 ≤ 14) (a1 : Int) (h1 : 4 ≤ a1 ∧ a1 ≤ 4) (w : World) : Calls Tryz.prog 6 #[.int .i64 a0, .int .i64 a1] w fun e w' => e = .returned (.bool true) ∧ Kp [] w w' := by
  obtain rfl : a0 = 14 := by omega
  obtain rfl : a1 = 4 := by omega
  exact run_bool (ds := pN14x4_dead) follows_mixed plans_ok hubDeaf.sumsG_ok (pN14x4_run) pN14x4_ok (fun i => if i = 0 then 14 else if i = 1 then 4 else 0) (fun x hx => by cases hx) (rgOk_cons (⟨Int.le_refl _, Int.le_refl _⟩) (rgOk_cons (⟨Int.le_refl _, Int.le_refl _⟩) (rgOk_nil))) (fun d hd => by simp [pN14x4_dead] at hd) (xs := [.int .i64 14, .int .i64 4]) (by rfl) w

def pN14x5_dead : List (List (SB × Bool)) := []
noncomputable def pN14x5_tree : R := fillT endT []
set_option maxRecDepth 1000000 in
theorem pN14x5_run : evCall Tryz.prog plans hubDeaf.sumsG 100000 6 [.int .i64 (.lit (.ofNat 14)), .int .i64 (.lit (.ofNat 5))] (s0 [] [[]] [((.ofNat 14), (.ofNat 14)), ((.ofNat 5), (.ofNat 5))]) finK = pN14x5_tree := by kernel_rfl
set_option maxRecDepth 1000000 in
theorem pN14x5_ok : okTree pN14x5_tree true [] pN14x5_dead = true := by kernel_rfl
theorem pN14x5_any (a0 : Int) (h0 : 14 ≤ a0 ∧ a0 ≤ 14) (a1 : Int) (h1 : 5 ≤ a1 ∧ a1 ≤ 5) (w : World) : Calls Tryz.prog 6 #[.int .i64 a0, .int .i64 a1] w fun e w' => e = .returned (.bool true) ∧ Kp [] w w' := by
  obtain rfl : a0 = 14 := by omega
  obtain rfl : a1 = 5 := by omega
  exact run_bool (ds := pN14x5_dead) follows_mixed plans_ok hubDeaf.sumsG_ok (pN14x5_run) pN14x5_ok (fun i => if i = 0 then 14 else if i = 1 then 5 else 0) (fun x hx => by cases hx) (rgOk_cons (⟨Int.le_refl _, Int.le_refl _⟩) (rgOk_cons (⟨Int.le_refl _, Int.le_refl _⟩) (rgOk_nil))) (fun d hd => by simp [pN14x5_dead] at hd) (xs := [.int .i64 14, .int .i64 5]) (by rfl) w

def pN14x6_dead : List (List (SB × Bool)) := []
noncomputable def pN14x6_tree : R := fillT endT []
set_option maxRecDepth 1000000 in
theorem pN14x6_run : evCall Tryz.prog plans hubDeaf.sumsG 100000 6 [.int .i64 (.lit (.ofNat 14)), .int .i64 (.lit (.ofNat 6))] (s0 [] [[]] [((.ofNat 14), (.ofNat 14)), ((.ofNat 6), (.ofNat 6))]) finK = pN14x6_tree := by kernel_rfl
set_option maxRecDepth 1000000 in
theorem pN14x6_ok : okTree pN14x6_tree true [] pN14x6_dead = true := by kernel_rfl
theorem pN14x6_any (a0 : Int) (h0 : 14 ≤ a0 ∧ a0 ≤ 14) (a1 : Int) (h1 : 6 ≤ a1 ∧ a1 ≤ 6) (w : World) : Calls Tryz.prog 6 #[.int .i64 a0, .int .i64 a1] w fun e w' => e = .returned (.bool true) ∧ Kp [] w w' := by
  obtain rfl : a0 = 14 := by omega
  obtain rfl : a1 = 6 := by omega
  exact run_bool (ds := pN14x6_dead) follows_mixed plans_ok hubDeaf.sumsG_ok (pN14x6_run) pN14x6_ok (fun i => if i = 0 then 14 else if i = 1 then 6 else 0) (fun x hx => by cases hx) (rgOk_cons (⟨Int.le_refl _, Int.le_refl _⟩) (rgOk_cons (⟨Int.le_refl _, Int.le_refl _⟩) (rgOk_nil))) (fun d hd => by simp [pN14x6_dead] at hd) (xs := [.int .i64 14, .int .i64 6]) (by rfl) w

def pN14x7_dead : List (List (SB × Bool)) := []
noncomputable def pN14x7_tree : R := fillT endT []
set_option maxRecDepth 1000000 in
theorem pN14x7_run : evCall Tryz.prog plans hubDeaf.sumsG 100000 6 [.int .i64 (.lit (.ofNat 14)), .int .i64 (.lit (.ofNat 7))] (s0 [] [[]] [((.ofNat 14), (.ofNat 14)), ((.ofNat 7), (.ofNat 7))]) finK = pN14x7_tree := by kernel_rfl
set_option maxRecDepth 1000000 in
theorem pN14x7_ok : okTree pN14x7_tree true [] pN14x7_dead = true := by kernel_rfl
theorem pN14x7_any (a0 : Int) (h0 : 14 ≤ a0 ∧ a0 ≤ 14) (a1 : Int) (h1 : 7 ≤ a1 ∧ a1 ≤ 7) (w : World) : Calls Tryz.prog 6 #[.int .i64 a0, .int .i64 a1] w fun e w' => e = .returned (.bool true) ∧ Kp [] w w' := by
  obtain rfl : a0 = 14 := by omega
  obtain rfl : a1 = 7 := by omega
  exact run_bool (ds := pN14x7_dead) follows_mixed plans_ok hubDeaf.sumsG_ok (pN14x7_run) pN14x7_ok (fun i => if i = 0 then 14 else if i = 1 then 7 else 0) (fun x hx => by cases hx) (rgOk_cons (⟨Int.le_refl _, Int.le_refl _⟩) (rgOk_cons (⟨Int.le_refl _, Int.le_refl _⟩) (rgOk_nil))) (fun d hd => by simp [pN14x7_dead] at hd) (xs := [.int .i64 14, .int .i64 7]) (by rfl) w

def pN14x8_dead : List (List (SB × Bool)) := []
noncomputable def pN14x8_tree : R := fillT endT []
set_option maxRecDepth 1000000 in
theorem pN14x8_run : evCall Tryz.prog plans hubDeaf.sumsG 100000 6 [.int .i64 (.lit (.ofNat 14)), .int .i64 (.lit (.ofNat 8))] (s0 [] [[]] [((.ofNat 14), (.ofNat 14)), ((.ofNat 8), (.ofNat 8))]) finK = pN14x8_tree := by kernel_rfl
set_option maxRecDepth 1000000 in
theorem pN14x8_ok : okTree pN14x8_tree true [] pN14x8_dead = true := by kernel_rfl
theorem pN14x8_any (a0 : Int) (h0 : 14 ≤ a0 ∧ a0 ≤ 14) (a1 : Int) (h1 : 8 ≤ a1 ∧ a1 ≤ 8) (w : World) : Calls Tryz.prog 6 #[.int .i64 a0, .int .i64 a1] w fun e w' => e = .returned (.bool true) ∧ Kp [] w w' := by
  obtain rfl : a0 = 14 := by omega
  obtain rfl : a1 = 8 := by omega
  exact run_bool (ds := pN14x8_dead) follows_mixed plans_ok hubDeaf.sumsG_ok (pN14x8_run) pN14x8_ok (fun i => if i = 0 then 14 else if i = 1 then 8 else 0) (fun x hx => by cases hx) (rgOk_cons (⟨Int.le_refl _, Int.le_refl _⟩) (rgOk_cons (⟨Int.le_refl _, Int.le_refl _⟩) (rgOk_nil))) (fun d hd => by simp [pN14x8_dead] at hd) (xs := [.int .i64 14, .int .i64 8]) (by rfl) w

def pN14x9_dead : List (List (SB × Bool)) := []
noncomputable def pN14x9_tree : R := fillT endT []
set_option maxRecDepth 1000000 in
theorem pN14x9_run : evCall Tryz.prog plans hubDeaf.sumsG 100000 6 [.int .i64 (.lit (.ofNat 14)), .int .i64 (.lit (.ofNat 9))] (s0 [] [[]] [((.ofNat 14), (.ofNat 14)), ((.ofNat 9), (.ofNat 9))]) finK = pN14x9_tree := by kernel_rfl
set_option maxRecDepth 1000000 in
theorem pN14x9_ok : okTree pN14x9_tree true [] pN14x9_dead = true := by kernel_rfl
theorem pN14x9_any (a0 : Int) (h0 : 14 ≤ a0 ∧ a0 ≤ 14) (a1 : Int) (h1 : 9 ≤ a1 ∧ a1 ≤ 9) (w : World) : Calls Tryz.prog 6 #[.int .i64 a0, .int .i64 a1] w fun e w' => e = .returned (.bool true) ∧ Kp [] w w' := by
  obtain rfl : a0 = 14 := by omega
  obtain rfl : a1 = 9 := by omega
  exact run_bool (ds := pN14x9_dead) follows_mixed plans_ok hubDeaf.sumsG_ok (pN14x9_run) pN14x9_ok (fun i => if i = 0 then 14 else if i = 1 then 9 else 0) (fun x hx => by cases hx) (rgOk_cons (⟨Int.le_refl _, Int.le_refl _⟩) (rgOk_cons (⟨Int.le_refl _, Int.le_refl _⟩) (rgOk_nil))) (fun d hd => by simp [pN14x9_dead] at hd) (xs := [.int .i64 14, .int .i64 9]) (by rfl) w

def pN14x10_dead : List (List (SB × Bool)) := []
noncomputable def pN14x10_tree : R := fillT endT []
set_option maxRecDepth 1000000 in
theorem pN14x10_run : evCall Tryz.prog plans hubDeaf.sumsG 100000 6 [.int .i64 (.lit (.ofNat 14)), .int .i64 (.lit (.ofNat 10))] (s0 [] [[]] [((.ofNat 14), (.ofNat 14)), ((.ofNat 10), (.ofNat 10))]) finK = pN14x10_tree := by kernel_rfl
set_option maxRecDepth 1000000 in
theorem pN14x10_ok : okTree pN14x10_tree true [] pN14x10_dead = true := by kernel_rfl
theorem pN14x10_any (a0 : Int) (h0 : 14 ≤ a0 ∧ a0 ≤ 14) (a1 : Int) (h1 : 10 ≤ a1 ∧ a1 ≤ 10) (w : World) : Calls Tryz.prog 6 #[.int .i64 a0, .int .i64 a1] w fun e w' => e = .returned (.bool true) ∧ Kp [] w w' := by
  obtain rfl : a0 = 14 := by omega
  obtain rfl : a1 = 10 := by omega
  exact run_bool (ds := pN14x10_dead) follows_mixed plans_ok hubDeaf.sumsG_ok (pN14x10_run) pN14x10_ok (fun i => if i = 0 then 14 else if i = 1 then 10 else 0) (fun x hx => by cases hx) (rgOk_cons (⟨Int.le_refl _, Int.le_refl _⟩) (rgOk_cons (⟨Int.le_refl _, Int.le_refl _⟩) (rgOk_nil))) (fun d hd => by simp [pN14x10_dead] at hd) (xs := [.int .i64 14, .int .i64 10]) (by rfl) w

def pN14x11_dead : List (List (SB × Bool)) := []
noncomputable def pN14x11_tree : R := fillT endT []
set_option maxRecDepth 1000000 in
theorem pN14x11_run : evCall Tryz.prog plans hubDeaf.sumsG 100000 6 [.int .i64 (.lit (.ofNat 14)), .int .i64 (.lit (.ofNat 11))] (s0 [] [[]] [((.ofNat 14), (.ofNat 14)), ((.ofNat 11), (.ofNat 11))]) finK = pN14x11_tree := by kernel_rfl
set_option maxRecDepth 1000000 in
theorem pN14x11_ok : okTree pN14x11_tree true [] pN14x11_dead = true := by kernel_rfl
theorem pN14x11_any (a0 : Int) (h0 : 14 ≤ a0 ∧ a0 ≤ 14) (a1 : Int) (h1 : 11 ≤ a1 ∧ a1 ≤ 11) (w : World) : Calls Tryz.prog 6 #[.int .i64 a0, .int .i64 a1] w fun e w' => e = .returned (.bool true) ∧ Kp [] w w' := by
  obtain rfl : a0 = 14 := by omega
  obtain rfl : a1 = 11 := by omega
  exact run_bool (ds := pN14x11_dead) follows_mixed plans_ok hubDeaf.sumsG_ok (pN14x11_run) pN14x11_ok (fun i => if i = 0 then 14 else if i = 1 then 11 else 0) (fun x hx => by cases hx) (rgOk_cons (⟨Int.le_refl _, Int.le_refl _⟩) (rgOk_cons (⟨Int.le_refl _, Int.le_refl _⟩) (rgOk_nil))) (fun d hd => by simp [pN14x11_dead] at hd) (xs := [.int .i64 14, .int .i64 11]) (by rfl) w

def pN14x12_dead : List (List (SB × Bool)) := []
noncomputable def pN14x12_tree : R := fillT endT []
set_option maxRecDepth 1000000 in
theorem pN14x12_run : evCall Tryz.prog plans hubDeaf.sumsG 100000 6 [.int .i64 (.lit (.ofNat 14)), .int .i64 (.lit (.ofNat 12))] (s0 [] [[]] [((.ofNat 14), (.ofNat 14)), ((.ofNat 12), (.ofNat 12))]) finK = pN14x12_tree := by kernel_rfl
set_option maxRecDepth 1000000 in
theorem pN14x12_ok : okTree pN14x12_tree true [] pN14x12_dead = true := by kernel_rfl
theorem pN14x12_any (a0 : Int) (h0 : 14 ≤ a0 ∧ a0 ≤ 14) (a1 : Int) (h1 : 12 ≤ a1 ∧ a1 ≤ 12) (w : World) : Calls Tryz.prog 6 #[.int .i64 a0, .int .i64 a1] w fun e w' => e = .returned (.bool true) ∧ Kp [] w w' := by
  obtain rfl : a0 = 14 := by omega
  obtain rfl : a1 = 12 := by omega
  exact run_bool (ds := pN14x12_dead) follows_mixed plans_ok hubDeaf.sumsG_ok (pN14x12_run) pN14x12_ok (fun i => if i = 0 then 14 else if i = 1 then 12 else 0) (fun x hx => by cases hx) (rgOk_cons (⟨Int.le_refl _, Int.le_refl _⟩) (rgOk_cons (⟨Int.le_refl _, Int.le_refl _⟩) (rgOk_nil))) (fun d hd => by simp [pN14x12_dead] at hd) (xs := [.int .i64 14, .int .i64 12]) (by rfl) w

def pN14x13_dead : List (List (SB × Bool)) := []
noncomputable def pN14x13_tree : R := fillT endT []
set_option maxRecDepth 1000000 in
theorem pN14x13_run : evCall Tryz.prog plans hubDeaf.sumsG 100000 6 [.int .i64 (.lit (.ofNat 14)), .int .i64 (.lit (.ofNat 13))] (s0 [] [[]] [((.ofNat 14), (.ofNat 14)), ((.ofNat 13), (.ofNat 13))]) finK = pN14x13_tree := by kernel_rfl
set_option maxRecDepth 1000000 in
theorem pN14x13_ok : okTree pN14x13_tree true [] pN14x13_dead = true := by kernel_rfl
theorem pN14x13_any (a0 : Int) (h0 : 14 ≤ a0 ∧ a0 ≤ 14) (a1 : Int) (h1 : 13 ≤ a1 ∧ a1 ≤ 13) (w : World) : Calls Tryz.prog 6 #[.int .i64 a0, .int .i64 a1] w fun e w' => e = .returned (.bool true) ∧ Kp [] w w' := by
  obtain rfl : a0 = 14 := by omega
  obtain rfl : a1 = 13 := by omega
  exact run_bool (ds := pN14x13_dead) follows_mixed plans_ok hubDeaf.sumsG_ok (pN14x13_run) pN14x13_ok (fun i => if i = 0 then 14 else if i = 1 then 13 else 0) (fun x hx => by cases hx) (rgOk_cons (⟨Int.le_refl _, Int.le_refl _⟩) (rgOk_cons (⟨Int.le_refl _, Int.le_refl _⟩) (rgOk_nil))) (fun d hd => by simp [pN14x13_dead] at hd) (xs := [.int .i64 14, .int .i64 13]) (by rfl) w

def pN14x14_dead : List (List (SB × Bool)) := []
noncomputable def pN14x14_tree : R := fillT endT []
set_option maxRecDepth 1000000 in
theorem pN14x14_run : evCall Tryz.prog plans hubDeaf.sumsG 100000 6 [.int .i64 (.lit (.ofNat 14)), .int .i64 (.lit (.ofNat 14))] (s0 [] [[]] [((.ofNat 14), (.ofNat 14)), ((.ofNat 14), (.ofNat 14))]) finK = pN14x14_tree := by kernel_rfl
set_option maxRecDepth 1000000 in
theorem pN14x14_ok : okTree pN14x14_tree true [] pN14x14_dead = true := by kernel_rfl
theorem pN14x14_any (a0 : Int) (h0 : 14 ≤ a0 ∧ a0 ≤ 14) (a1 : Int) (h1 : 14 ≤ a1 ∧ a1 ≤ 14) (w : World) : Calls Tryz.prog 6 #[.int .i64 a0, .int .i64 a1] w fun e w' => e = .returned (.bool true) ∧ Kp [] w w' := by
  obtain rfl : a0 = 14 := by omega
  obtain rfl : a1 = 14 := by omega
  exact run_bool (ds := pN14x14_dead) follows_mixed plans_ok hubDeaf.sumsG_ok (pN14x14_run) pN14x14_ok (fun i => if i = 0 then 14 else if i = 1 then 14 else 0) (fun x hx => by cases hx) (rgOk_cons (⟨Int.le_refl _, Int.le_refl _⟩) (rgOk_cons (⟨Int.le_refl _, Int.le_refl _⟩) (rgOk_nil))) (fun d hd => by simp [pN14x14_dead] at hd) (xs := [.int .i64 14, .int .i64 14]) (by rfl) w

def pN15x0_dead : List (List (SB × Bool)) := []
noncomputable def pN15x0_tree : R := fillT endT []
set_option maxRecDepth 1000000 in
theorem pN15x0_run : evCall Tryz.prog plans hubDeaf.sumsG 100000 6 [.int .i64 (.lit (.ofNat 15)), .int .i64 (.lit (.ofNat 0))] (s0 [] [[]] [((.ofNat 15), (.ofNat 15)), ((.ofNat 0), (.ofNat 0))]) finK = pN15x0_tree := by kernel_rfl
set_option maxRecDepth 1000000 in
theorem pN15x0_ok : okTree pN15x0_tree true [] pN15x0_dead = true := by kernel_rfl
theorem pN15x0_any (a0 : Int) (h0 : 15 ≤ a0 ∧ a0 ≤ 15) (a1 : Int) (h1 : 0 ≤ a1 ∧ a1 ≤ 0) (w : World) : Calls Tryz.prog 6 #[.int .i64 a0, .int .i64 a1] w fun e w' => e = .returned (.bool true) ∧ Kp [] w w' := by
  obtain rfl : a0 = 15 := by omega
  obtain rfl : a1 = 0 := by omega
  exact run_bool (ds := pN15x0_dead) follows_mixed plans_ok hubDeaf.sumsG_ok (pN15x0_run) pN15x0_ok (fun i => if i = 0 then 15 else if i = 1 then 0 else 0) (fun x hx => by cases hx) (rgOk_cons (⟨Int.le_refl _, Int.le_refl _⟩) (rgOk_cons (⟨Int.le_refl _, Int.le_refl _⟩) (rgOk_nil))) (fun d hd => by simp [pN15x0_dead] at hd) (xs := [.int .i64 15, .int .i64 0]) (by rfl) w

def pN15x1_dead : List (List (SB × Bool)) := []
noncomputable def pN15x1_tree : R := fillT endT []
set_option maxRecDepth 1000000 in
theorem pN15x1_run : evCall Tryz.prog plans hubDeaf.sumsG 100000 6 [.int .i64 (.lit (.ofNat 15)), .int .i64 (.lit (.ofNat 1))] (s0 [] [[]] [((.ofNat 15), (.ofNat 15)), ((.ofNat 1), (.ofNat 1))]) finK = pN15x1_tree := by kernel_rfl
set_option maxRecDepth 1000000 in
theorem pN15x1_ok : okTree pN15x1_tree true [] pN15x1_dead = true := by kernel_rfl
theorem pN15x1_any (a0 : Int) (h0 : 15 ≤ a0 ∧ a0 ≤ 15) (a1 : Int) (h1 : 1 ≤ a1 ∧ a1 ≤ 1) (w : World) : Calls Tryz.prog 6 #[.int .i64 a0, .int .i64 a1] w fun e w' => e = .returned (.bool true) ∧ Kp [] w w' := by
  obtain rfl : a0 = 15 := by omega
  obtain rfl : a1 = 1 := by omega
  exact run_bool (ds := pN15x1_dead) follows_mixed plans_ok hubDeaf.sumsG_ok (pN15x1_run) pN15x1_ok (fun i => if i = 0 then 15 else if i = 1 then 1 else 0) (fun x hx => by cases hx) (rgOk_cons (⟨Int.le_refl _, Int.le_refl _⟩) (rgOk_cons (⟨Int.le_refl _, Int.le_refl _⟩) (rgOk_nil))) (fun d hd => by simp [pN15x1_dead] at hd) (xs := [.int .i64 15, .int .i64 1]) (by rfl) w

def pN15x2_dead : List (List (SB × Bool)) := []
noncomputable def pN15x2_tree : R := fillT endT []
set_option maxRecDepth 1000000 in
theorem pN15x2_run : evCall Tryz.prog plans hubDeaf.sumsG 100000 6 [.int .i64 (.lit (.ofNat 15)), .int .i64 (.lit (.ofNat 2))] (s0 [] [[]] [((.ofNat 15), (.ofNat 15)), ((.ofNat 2), (.ofNat 2))]) finK = pN15x2_tree := by kernel_rfl
set_option maxRecDepth 1000000 in
theorem pN15x2_ok : okTree pN15x2_tree true [] pN15x2_dead = true := by kernel_rfl
theorem pN15x2_any (a0 : Int) (h0 : 15 ≤ a0 ∧ a0 ≤ 15) (a1 : Int) (h1 : 2 ≤ a1 ∧ a1 ≤ 2) (w : World) : Calls Tryz.prog 6 #[.int .i64 a0, .int .i64 a1] w fun e w' => e = .returned (.bool true) ∧ Kp [] w w' := by
  obtain rfl : a0 = 15 := by omega
  obtain rfl : a1 = 2 := by omega
  exact run_bool (ds := pN15x2_dead) follows_mixed plans_ok hubDeaf.sumsG_ok (pN15x2_run) pN15x2_ok (fun i => if i = 0 then 15 else if i = 1 then 2 else 0) (fun x hx => by cases hx) (rgOk_cons (⟨Int.le_refl _, Int.le_refl _⟩) (rgOk_cons (⟨Int.le_refl _, Int.le_refl _⟩) (rgOk_nil))) (fun d hd => by simp [pN15x2_dead] at hd) (xs := [.int .i64 15, .int .i64 2]) (by rfl) w

def pN15x3_dead : List (List (SB × Bool)) := []
noncomputable def pN15x3_tree : R := fillT endT []
set_option maxRecDepth 1000000 in
theorem pN15x3_run : evCall Tryz.prog plans hubDeaf.sumsG 100000 6 [.int .i64 (.lit (.ofNat 15)), .int .i64 (.lit (.ofNat 3))] (s0 [] [[]] [((.ofNat 15), (.ofNat 15)), ((.ofNat 3), (.ofNat 3))]) finK = pN15x3_tree := by kernel_rfl
set_option maxRecDepth 1000000 in
theorem pN15x3_ok : okTree pN15x3_tree true [] pN15x3_dead = true := by kernel_rfl
theorem pN15x3_any (a0 : Int) (h0 : 15 ≤ a0 ∧ a0 ≤ 15) (a1 : Int) (h1 : 3 ≤ a1 ∧ a1 ≤ 3) (w : World) : Calls Tryz.prog 6 #[.int .i64 a0, .int .i64 a1] w fun e w' => e = .returned (.bool true) ∧ Kp [] w w' := by
  obtain rfl : a0 = 15 := by omega
  obtain rfl : a1 = 3 := by omega
  exact run_bool (ds := pN15x3_dead) follows_mixed plans_ok hubDeaf.sumsG_ok (pN15x3_run) pN15x3_ok (fun i => if i = 0 then 15 else if i = 1 then 3 else 0) (fun x hx => by cases hx) (rgOk_cons (⟨Int.le_refl _, Int.le_refl _⟩) (rgOk_cons (⟨Int.le_refl _, Int.le_refl _⟩) (rgOk_nil))) (fun d hd => by simp [pN15x3_dead] at hd) (xs := [.int .i64 15, .int .i64 3]) (by rfl) w

def pN15x4_dead : List (List (SB × Bool)) := []
noncomputable def pN15x4_tree : R := fillT endT []
set_option maxRecDepth 1000000 in
theorem pN15x4_run : evCall Tryz.prog plans hubDeaf.sumsG 100000 6 [.int .i64 (.lit (.ofNat 15)), .int .i64 (.lit (.ofNat 4))] (s0 [] [[]] [((.ofNat 15), (.ofNat 15)), ((.ofNat 4), (.ofNat 4))]) finK = pN15x4_tree := by kernel_rfl
set_option maxRecDepth 1000000 in
theorem pN15x4_ok : okTree pN15x4_tree true [] pN15x4_dead = true := by kernel_rfl
theorem pN15x4_any (a0 : Int) (h0 : 15 ≤ a0 ∧ a0 ≤ 15) (a1 : Int) (h1 : 4 ≤ a1 ∧ a1 ≤ 4) (w : World) : Calls Tryz.prog 6 #[.int .i64 a0, .int .i64 a1] w fun e w' => e = .returned (.bool true) ∧ Kp [] w w' := by
  obtain rfl : a0 = 15 := by omega
  obtain rfl : a1 = 4 := by omega
  exact run_bool (ds := pN15x4_dead) follows_mixed plans_ok hubDeaf.sumsG_ok (pN15x4_run) pN15x4_ok (fun i => if i = 0 then 15 else if i = 1 then 4 else 0) (fun x hx => by cases hx) (rgOk_cons (⟨Int.le_refl _, Int.le_refl _⟩) (rgOk_cons (⟨Int.le_refl _, Int.le_refl _⟩) (rgOk_nil))) (fun d hd => by simp [pN15x4_dead] at hd) (xs := [.int .i64 15, .int .i64 4]) (by rfl) w

def pN15x5_dead : List (List (SB × Bool)) := []
noncomputable def pN15x5_tree : R := fillT endT []
set_option maxRecDepth 1000000 in
theorem pN15x5_run : evCall Tryz.prog plans hubDeaf.sumsG 100000 6 [.int .i64 (.lit (.ofNat 15)), .int .i64 (.lit (.ofNat 5))] (s0 [] [[]] [((.ofNat 15), (.ofNat 15)), ((.ofNat 5), (.ofNat 5))]) finK = pN15x5_tree := by kernel_rfl
set_option maxRecDepth 1000000 in
theorem pN15x5_ok : okTree pN15x5_tree true [] pN15x5_dead = true := by kernel_rfl
theorem pN15x5_any (a0 : Int) (h0 : 15 ≤ a0 ∧ a0 ≤ 15) (a1 : Int) (h1 : 5 ≤ a1 ∧ a1 ≤ 5) (w : World) : Calls Tryz.prog 6 #[.int .i64 a0, .int .i64 a1] w fun e w' => e = .returned (.bool true) ∧ Kp [] w w' := by
  obtain rfl : a0 = 15 := by omega
  obtain rfl : a1 = 5 := by omega
  exact run_bool (ds := pN15x5_dead) follows_mixed plans_ok hubDeaf.sumsG_ok (pN15x5_run) pN15x5_ok (fun i => if i = 0 then 15 else if i = 1 then 5 else 0) (fun x hx => by cases hx) (rgOk_cons (⟨Int.le_refl _, Int.le_refl _⟩) (rgOk_cons (⟨Int.le_refl _, Int.le_refl _⟩) (rgOk_nil))) (fun d hd => by simp [pN15x5_dead] at hd) (xs := [.int .i64 15, .int .i64 5]) (by rfl) w

def pN15x6_dead : List (List (SB × Bool)) := []
noncomputable def pN15x6_tree : R := fillT endT []
set_option maxRecDepth 1000000 in
theorem pN15x6_run : evCall Tryz.prog plans hubDeaf.sumsG 100000 6 [.int .i64 (.lit (.ofNat 15)), .int .i64 (.lit (.ofNat 6))] (s0 [] [[]] [((.ofNat 15), (.ofNat 15)), ((.ofNat 6), (.ofNat 6))]) finK = pN15x6_tree := by kernel_rfl
set_option maxRecDepth 1000000 in
theorem pN15x6_ok : okTree pN15x6_tree true [] pN15x6_dead = true := by kernel_rfl
theorem pN15x6_any (a0 : Int) (h0 : 15 ≤ a0 ∧ a0 ≤ 15) (a1 : Int) (h1 : 6 ≤ a1 ∧ a1 ≤ 6) (w : World) : Calls Tryz.prog 6 #[.int .i64 a0, .int .i64 a1] w fun e w' => e = .returned (.bool true) ∧ Kp [] w w' := by
  obtain rfl : a0 = 15 := by omega
  obtain rfl : a1 = 6 := by omega
  exact run_bool (ds := pN15x6_dead) follows_mixed plans_ok hubDeaf.sumsG_ok (pN15x6_run) pN15x6_ok (fun i => if i = 0 then 15 else if i = 1 then 6 else 0) (fun x hx => by cases hx) (rgOk_cons (⟨Int.le_refl _, Int.le_refl _⟩) (rgOk_cons (⟨Int.le_refl _, Int.le_refl _⟩) (rgOk_nil))) (fun d hd => by simp [pN15x6_dead] at hd) (xs := [.int .i64 15, .int .i64 6]) (by rfl) w

def pN15x7_dead : List (List (SB × Bool)) := []
noncomputable def pN15x7_tree : R := fillT endT []
set_option maxRecDepth 1000000 in
theorem pN15x7_run : evCall Tryz.prog plans hubDeaf.sumsG 100000 6 [.int .i64 (.lit (.ofNat 15)), .int .i64 (.lit (.ofNat 7))] (s0 [] [[]] [((.ofNat 15), (.ofNat 15)), ((.ofNat 7), (.ofNat 7))]) finK = pN15x7_tree := by kernel_rfl
set_option maxRecDepth 1000000 in
theorem pN15x7_ok : okTree pN15x7_tree true [] pN15x7_dead = true := by kernel_rfl
theorem pN15x7_any (a0 : Int) (h0 : 15 ≤ a0 ∧ a0 ≤ 15) (a1 : Int) (h1 : 7 ≤ a1 ∧ a1 ≤ 7) (w : World) : Calls Tryz.prog 6 #[.int .i64 a0, .int .i64 a1] w fun e w' => e = .returned (.bool true) ∧ Kp [] w w' := by
  obtain rfl : a0 = 15 := by omega
  obtain rfl : a1 = 7 := by omega
  exact run_bool (ds := pN15x7_dead) follows_mixed plans_ok hubDeaf.sumsG_ok (pN15x7_run) pN15x7_ok (fun i => if i = 0 then 15 else if i = 1 then 7 else 0) (fun x hx => by cases hx) (rgOk_cons (⟨Int.le_refl _, Int.le_refl _⟩) (rgOk_cons (⟨Int.le_refl _, Int.le_refl _⟩) (rgOk_nil))) (fun d hd => by simp [pN15x7_dead] at hd) (xs := [.int .i64 15, .int .i64 7]) (by rfl) w

end Go.Proofs.YtlmpmmcefdhgmaaGreat.hubDeaf

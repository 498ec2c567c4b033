/-
  HubDeaf: runs, N19x2, N19x3, N19x4, N19x5, N19x6, N19x7, N19x8, N19x9, N19x10, N19x11, N19x12, N19x13, N19x14, N19x15, N19x16, N19x17, N19x18, N19x19, N20x0, N20x1, N20x2, N20x3, N20x4, N20x5, N20x6, N20x7, N20x8, N20x9, N20x10, N20x11, N20x12, N20x13.
-/
import Derived.Test.YtlmpmmcefdhgmaaGreatSgDS
import Derived.Test.YtlmpmmcefdhgmaaGreatRs
import Derived.Test.YtlmpmmcefdhgmaaGreatPlsOk
set_option linter.unusedVariables false
set_option linter.unusedSimpArgs false
namespace Go.Proofs.YtlmpmmcefdhgmaaGreat.hubDeaf
open Go

def pN19x2_dead : List (List (SB × Bool)) := []
noncomputable def pN19x2_tree : R := fillT endT []
set_option maxRecDepth 1000000 in
theorem pN19x2_run : evCall Tryz.prog plans hubDeaf.sumsG 100000 6 [.int .i64 (.lit (.ofNat 19)), .int .i64 (.lit (.ofNat 2))] (s0 [] [[]] [((.ofNat 19), (.ofNat 19)), ((.ofNat 2), (.ofNat 2))]) finK = pN19x2_tree := by kernel_rfl
set_option maxRecDepth 1000000 in
theorem pN19x2_ok : okTree pN19x2_tree true [] pN19x2_dead = true := by kernel_rfl
theorem pN19x2_any (a0 : Int) (h0 : 19 ≤ a0 ∧ a0 ≤ 19) (a1 : Int) (h1 : 2 ≤ a1 ∧ a1 ≤ 2) (w : World) : Calls Tryz.prog 6 #[.int .i64 a0, .int .i64 a1] w fun e w' => e = .returned (.bool true) ∧ Kp [] w w' := by
  obtain rfl : a0 = 19 := by omega
  obtain rfl : a1 = 2 := by omega
  exact run_bool (ds := pN19x2_dead) follows_mixed plans_ok hubDeaf.sumsG_ok (pN19x2_run) pN19x2_ok (fun i => if i = 0 then 19 else if i = 1 then 2 else 0) (fun x hx => by cases hx) (rgOk_cons (⟨Int.le_refl _, Int.le_refl _⟩) (rgOk_cons (⟨Int.le_refl _, Int.le_refl _⟩) (rgOk_nil))) (fun d hd => by simp [pN19x2_dead] at hd) (xs := [.int .i64 19, .int .i64 2]) (by rfl) w

def pN19x3_dead : List (List (SB × Bool)) := []
noncomputable def pN19x3_tree : R := fillT endT []
set_option maxRecDepth 1000000 in
theorem pN19x3_run : evCall Tryz.prog plans hubDeaf.sumsG 100000 6 [.int .i64 (.lit (.ofNat 19)), .int .i64 (.lit (.ofNat 3))] (s0 [] [[]] [((.ofNat 19), (.ofNat 19)), ((.ofNat 3), (.ofNat 3))]) finK = pN19x3_tree := by kernel_rfl
set_option maxRecDepth 1000000 in
theorem pN19x3_ok : okTree pN19x3_tree true [] pN19x3_dead = true := by kernel_rfl
theorem pN19x3_any (a0 : Int) (h0 : 19 ≤ a0 ∧ a0 ≤ 19) (a1 : Int) (h1 : 3 ≤ a1 ∧ a1 ≤ 3) (w : World) : Calls Tryz.prog 6 #[.int .i64 a0, .int .i64 a1] w fun e w' => e = .returned (.bool true) ∧ Kp [] w w' := by
  obtain rfl : a0 = 19 := by omega
  obtain rfl : a1 = 3 := by omega
  exact run_bool (ds := pN19x3_dead) follows_mixed plans_ok hubDeaf.sumsG_ok (pN19x3_run) pN19x3_ok (fun i => if i = 0 then 19 else if i = 1 then 3 else 0) (fun x hx => by cases hx) (rgOk_cons (⟨Int.le_refl _, Int.le_refl _⟩) (rgOk_cons (⟨Int.le_refl _, Int.le_refl _⟩) (rgOk_nil))) (fun d hd => by simp [pN19x3_dead] at hd) (xs := [.int .i64 19, .int .i64 3]) (by rfl) w

def pN19x4_dead : List (List (SB × Bool)) := []
noncomputable def pN19x4_tree : R := fillT endT []
set_option maxRecDepth 1000000 in
theorem pN19x4_run : evCall Tryz.prog plans hubDeaf.sumsG 100000 6 [.int .i64 (.lit (.ofNat 19)), .int .i64 (.lit (.ofNat 4))] (s0 [] [[]] [((.ofNat 19), (.ofNat 19)), ((.ofNat 4), (.ofNat 4))]) finK = pN19x4_tree := by kernel_rfl
set_option maxRecDepth 1000000 in
theorem pN19x4_ok : okTree pN19x4_tree true [] pN19x4_dead = true := by kernel_rfl
theorem pN19x4_any (a0 : Int) (h0 : 19 ≤ a0 ∧ a0 ≤ 19) (a1 : Int) (h1 : 4 ≤ a1 ∧ a1 ≤ 4) (w : World) : Calls Tryz.prog 6 #[.int .i64 a0, .int .i64 a1] w fun e w' => e = .returned (.bool true) ∧ Kp [] w w' := by
  obtain rfl : a0 = 19 := by omega
  obtain rfl : a1 = 4 := by omega
  exact run_bool (ds := pN19x4_dead) follows_mixed plans_ok hubDeaf.sumsG_ok (pN19x4_run) pN19x4_ok (fun i => if i = 0 then 19 else if i = 1 then 4 else 0) (fun x hx => by cases hx) (rgOk_cons (⟨Int.le_refl _, Int.le_refl _⟩) (rgOk_cons (⟨Int.le_refl _, Int.le_refl _⟩) (rgOk_nil))) (fun d hd => by simp [pN19x4_dead] at hd) (xs := [.int .i64 19, .int .i64 4]) (by rfl) w

def pN19x5_dead : List (List (SB × Bool)) := []
noncomputable def pN19x5_tree : R := fillT endT []
set_option maxRecDepth 1000000 in
theorem pN19x5_run : evCall Tryz.prog plans hubDeaf.sumsG 100000 6 [.int .i64 (.lit (.ofNat 19)), .int .i64 (.lit (.ofNat 5))] (s0 [] [[]] [((.ofNat 19), (.ofNat 19)), ((.ofNat 5), (.ofNat 5))]) finK = pN19x5_tree := by kernel_rfl
set_option maxRecDepth 1000000 in
theorem pN19x5_ok : okTree pN19x5_tree true [] pN19x5_dead = true := by kernel_rfl
theorem pN19x5_any (a0 : Int) (h0 : 19 ≤ a0 ∧ a0 ≤ 19) (a1 : Int) (h1 : 5 ≤ a1 ∧ a1 ≤ 5) (w : World) : Calls Tryz.prog 6 #[.int .i64 a0, .int .i64 a1] w fun e w' => e = .returned (.bool true) ∧ Kp [] w w' := by
  obtain rfl : a0 = 19 := by omega
  obtain rfl : a1 = 5 := by omega
  exact run_bool (ds := pN19x5_dead) follows_mixed plans_ok hubDeaf.sumsG_ok (pN19x5_run) pN19x5_ok (fun i => if i = 0 then 19 else if i = 1 then 5 else 0) (fun x hx => by cases hx) (rgOk_cons (⟨Int.le_refl _, Int.le_refl _⟩) (rgOk_cons (⟨Int.le_refl _, Int.le_refl _⟩) (rgOk_nil))) (fun d hd => by simp [pN19x5_dead] at hd) (xs := [.int .i64 19, .int .i64 5]) (by rfl) w

def pN19x6_dead : List (List (SB × Bool)) := []
noncomputable def pN19x6_tree : R := fillT endT []
set_option maxRecDepth 1000000 in
theorem pN19x6_run : evCall Tryz.prog plans hubDeaf.sumsG 100000 6 [.int .i64 (.lit (.ofNat 19)), .int .i64 (.lit (.ofNat 6))] (s0 [] [[]] [((.ofNat 19), (.ofNat 19)), ((.ofNat 6), (.ofNat 6))]) finK = pN19x6_tree := by kernel_rfl
set_option maxRecDepth 1000000 in
theorem pN19x6_ok : okTree pN19x6_tree true [] pN19x6_dead = true := by kernel_rfl
theorem pN19x6_any (a0 : Int) (h0 : 19 ≤ a0 ∧ a0 ≤ 19) (a1 : Int) (h1 : 6 ≤ a1 ∧ a1 ≤ 6) (w : World) : Calls Tryz.prog 6 #[.int .i64 a0, .int .i64 a1] w fun e w' => e = .returned (.bool true) ∧ Kp [] w w' := by
  obtain rfl : a0 = 19 := by omega
  obtain rfl : a1 = 6 := by omega
  exact run_bool (ds := pN19x6_dead) follows_mixed plans_ok hubDeaf.sumsG_ok (pN19x6_run) pN19x6_ok (fun i => if i = 0 then 19 else if i = 1 then 6 else 0) (fun x hx => by cases hx) (rgOk_cons (⟨Int.le_refl _, Int.le_refl _⟩) (rgOk_cons (⟨Int.le_refl _, Int.le_refl _⟩) (rgOk_nil))) (fun d hd => by simp [pN19x6_dead] at hd) (xs := [.int .i64 19, .int .i64 6]) (by rfl) w

def pN19x7_dead : List (List (SB × Bool)) := []
noncomputable def pN19x7_tree : R := fillT endT []
set_option maxRecDepth 1000000 in
theorem pN19x7_run : evCall Tryz.prog plans hubDeaf.sumsG 100000 6 [.int .i64 (.lit (.ofNat 19)), .int .i64 (.lit (.ofNat 7))] (s0 [] [[]] [((.ofNat 19), (.ofNat 19)), ((.ofNat 7), (.ofNat 7))]) finK = pN19x7_tree := by kernel_rfl
set_option maxRecDepth 1000000 in
theorem pN19x7_ok : okTree pN19x7_tree true [] pN19x7_dead = true := by kernel_rfl
theorem pN19x7_any (a0 : Int) (h0 : 19 ≤ a0 ∧ a0 ≤ 19) (a1 : Int) (h1 : 7 ≤ a1 ∧ a1 ≤ 7) (w : World) : Calls Tryz.prog 6 #[.int .i64 a0, .int .i64 a1] w fun e w' => e = .returned (.bool true) ∧ Kp [] w w' := by
  obtain rfl : a0 = 19 := by omega
  obtain rfl : a1 = 7 := by omega
  exact run_bool (ds := pN19x7_dead) follows_mixed plans_ok hubDeaf.sumsG_ok (pN19x7_run) pN19x7_ok (fun i => if i = 0 then 19 else if i = 1 then 7 else 0) (fun x hx => by cases hx) (rgOk_cons (⟨Int.le_refl _, Int.le_refl _⟩) (rgOk_cons (⟨Int.le_refl _, Int.le_refl _⟩) (rgOk_nil))) (fun d hd => by simp [pN19x7_dead] at hd) (xs := [.int .i64 19, .int .i64 7]) (by rfl) w

def pN19x8_dead : List (List (SB × Bool)) := []
noncomputable def pN19x8_tree : R := fillT endT []
set_option maxRecDepth 1000000 in
theorem pN19x8_run : evCall Tryz.prog plans hubDeaf.sumsG 100000 6 [.int .i64 (.lit (.ofNat 19)), .int .i64 (.lit (.ofNat 8))] (s0 [] [[]] [((.ofNat 19), (.ofNat 19)), ((.ofNat 8), (.ofNat 8))]) finK = pN19x8_tree := by kernel_rfl
set_option maxRecDepth 1000000 in
theorem pN19x8_ok : okTree pN19x8_tree true [] pN19x8_dead = true := by kernel_rfl
theorem pN19x8_any (a0 : Int) (h0 : 19 ≤ a0 ∧ a0 ≤ 19) (a1 : Int) (h1 : 8 ≤ a1 ∧ a1 ≤ 8) (w : World) : Calls Tryz.prog 6 #[.int .i64 a0, .int .i64 a1] w fun e w' => e = .returned (.bool true) ∧ Kp [] w w' := by
  obtain rfl : a0 = 19 := by omega
  obtain rfl : a1 = 8 := by omega
  exact run_bool (ds := pN19x8_dead) follows_mixed plans_ok hubDeaf.sumsG_ok (pN19x8_run) pN19x8_ok (fun i => if i = 0 then 19 else if i = 1 then 8 else 0) (fun x hx => by cases hx) (rgOk_cons (⟨Int.le_refl _, Int.le_refl _⟩) (rgOk_cons (⟨Int.le_refl _, Int.le_refl _⟩) (rgOk_nil))) (fun d hd => by simp [pN19x8_dead] at hd) (xs := [.int .i64 19, .int .i64 8]) (by rfl) w

def pN19x9_dead : List (List (SB × Bool)) := []
noncomputable def pN19x9_tree : R := fillT endT []
set_option maxRecDepth 1000000 in
theorem pN19x9_run : evCall Tryz.prog plans hubDeaf.sumsG 100000 6 [.int .i64 (.lit (.ofNat 19)), .int .i64 (.lit (.ofNat 9))] (s0 [] [[]] [((.ofNat 19), (.ofNat 19)), ((.ofNat 9), (.ofNat 9))]) finK = pN19x9_tree := by kernel_rfl
set_option maxRecDepth 1000000 in
theorem pN19x9_ok : okTree pN19x9_tree true [] pN19x9_dead = true := by kernel_rfl
theorem pN19x9_any (a0 : Int) (h0 : 19 ≤ a0 ∧ a0 ≤ 19) (a1 : Int) (h1 : 9 ≤ a1 ∧ a1 ≤ 9) (w : World) : Calls Tryz.prog 6 #[.int .i64 a0, .int .i64 a1] w fun e w' => e = .returned (.bool true) ∧ Kp [] w w' := by
  obtain rfl : a0 = 19 := by omega
  obtain rfl : a1 = 9 := by omega
  exact run_bool (ds := pN19x9_dead) follows_mixed plans_ok hubDeaf.sumsG_ok (pN19x9_run) pN19x9_ok (fun i => if i = 0 then 19 else if i = 1 then 9 else 0) (fun x hx => by cases hx) (rgOk_cons (⟨Int.le_refl _, Int.le_refl _⟩) (rgOk_cons (⟨Int.le_refl _, Int.le_refl _⟩) (rgOk_nil))) (fun d hd => by simp [pN19x9_dead] at hd) (xs := [.int .i64 19, .int .i64 9]) (by rfl) w

def pN19x10_dead : List (List (SB × Bool)) := []
noncomputable def pN19x10_tree : R := fillT endT []
set_option maxRecDepth 1000000 in
theorem pN19x10_run : evCall Tryz.prog plans hubDeaf.sumsG 100000 6 [.int .i64 (.lit (.ofNat 19)), .int .i64 (.lit (.ofNat 10))] (s0 [] [[]] [((.ofNat 19), (.ofNat 19)), ((.ofNat 10), (.ofNat 10))]) finK = pN19x10_tree := by kernel_rfl
set_option maxRecDepth 1000000 in
theorem pN19x10_ok : okTree pN19x10_tree true [] pN19x10_dead = true := by kernel_rfl
theorem pN19x10_any (a0 : Int) (h0 : 19 ≤ a0 ∧ a0 ≤ 19) (a1 : Int) (h1 : 10 ≤ a1 ∧ a1 ≤ 10) (w : World) : Calls Tryz.prog 6 #[.int .i64 a0, .int .i64 a1] w fun e w' => e = .returned (.bool true) ∧ Kp [] w w' := by
  obtain rfl : a0 = 19 := by omega
  obtain rfl : a1 = 10 := by omega
  exact run_bool (ds := pN19x10_dead) follows_mixed plans_ok hubDeaf.sumsG_ok (pN19x10_run) pN19x10_ok (fun i => if i = 0 then 19 else if i = 1 then 10 else 0) (fun x hx => by cases hx) (rgOk_cons (⟨Int.le_refl _, Int.le_refl _⟩) (rgOk_cons (⟨Int.le_refl _, Int.le_refl _⟩) (rgOk_nil))) (fun d hd => by simp [pN19x10_dead] at hd) (xs := [.int .i64 19, .int .i64 10]) (by rfl) w

def pN19x11_dead : List (List (SB × Bool)) := []
noncomputable def pN19x11_tree : R := fillT endT []
set_option maxRecDepth 1000000 in
theorem pN19x11_run : evCall Tryz.prog plans hubDeaf.sumsG 100000 6 [.int .i64 (.lit (.ofNat 19)), .int .i64 (.lit (.ofNat 11))] (s0 [] [[]] [((.ofNat 19), (.ofNat 19)), ((.ofNat 11), (.ofNat 11))]) finK = pN19x11_tree := by kernel_rfl
set_option maxRecDepth 1000000 in
theorem pN19x11_ok : okTree pN19x11_tree true [] pN19x11_dead = true := by kernel_rfl
theorem pN19x11_any (a0 : Int) (h0 : 19 ≤ a0 ∧ a0 ≤ 19) (a1 : Int) (h1 : 11 ≤ a1 ∧ a1 ≤ 11) (w : World) : Calls Tryz.prog 6 #[.int .i64 a0, .int .i64 a1] w fun e w' => e = .returned (.bool true) ∧ Kp [] w w' := by
  obtain rfl : a0 = 19 := by omega
  obtain rfl : a1 = 11 := by omega
  exact run_bool (ds := pN19x11_dead) follows_mixed plans_ok hubDeaf.sumsG_ok (pN19x11_run) pN19x11_ok (fun i => if i = 0 then 19 else if i = 1 then 11 else 0) (fun x hx => by cases hx) (rgOk_cons (⟨Int.le_refl _, Int.le_refl _⟩) (rgOk_cons (⟨Int.le_refl _, Int.le_refl _⟩) (rgOk_nil))) (fun d hd => by simp [pN19x11_dead] at hd) (xs := [.int .i64 19, .int .i64 11]) (by rfl) w

def pN19x12_dead : List (List (SB × Bool)) := []
noncomputable def pN19x12_tree : R := fillT endT []
set_option maxRecDepth 1000000 in
theorem pN19x12_run : evCall Tryz.prog plans hubDeaf.sumsG 100000 6 [.int .i64 (.lit (.ofNat 19)), .int .i64 (.lit (.ofNat 12))] (s0 [] [[]] [((.ofNat 19), (.ofNat 19)), ((.ofNat 12), (.ofNat 12))]) finK = pN19x12_tree := by kernel_rfl
set_option maxRecDepth 1000000 in
theorem pN19x12_ok : okTree pN19x12_tree true [] pN19x12_dead = true := by kernel_rfl
theorem pN19x12_any (a0 : Int) (h0 : 19 ≤ a0 ∧ a0 ≤ 19) (a1 : Int) (h1 : 12 ≤ a1 ∧ a1 ≤ 12) (w : World) : Calls Tryz.prog 6 #[.int .i64 a0, .int .i64 a1] w fun e w' => e = .returned (.bool true) ∧ Kp [] w w' := by
  obtain rfl : a0 = 19 := by omega
  obtain rfl : a1 = 12 := by omega
  exact run_bool (ds := pN19x12_dead) follows_mixed plans_ok hubDeaf.sumsG_ok (pN19x12_run) pN19x12_ok (fun i => if i = 0 then 19 else if i = 1 then 12 else 0) (fun x hx => by cases hx) (rgOk_cons (⟨Int.le_refl _, Int.le_refl _⟩) (rgOk_cons (⟨Int.le_refl _, Int.le_refl _⟩) (rgOk_nil))) (fun d hd => by simp [pN19x12_dead] at hd) (xs := [.int .i64 19, .int .i64 12]) (by rfl) w

def pN19x13_dead : List (List (SB × Bool)) := []
noncomputable def pN19x13_tree : R := fillT endT []
set_option maxRecDepth 1000000 in
theorem pN19x13_run : evCall Tryz.prog plans hubDeaf.sumsG 100000 6 [.int .i64 (.lit (.ofNat 19)), .int .i64 (.lit (.ofNat 13))] (s0 [] [[]] [((.ofNat 19), (.ofNat 19)), ((.ofNat 13), (.ofNat 13))]) finK = pN19x13_tree := by kernel_rfl
set_option maxRecDepth 1000000 in
theorem pN19x13_ok : okTree pN19x13_tree true [] pN19x13_dead = true := by kernel_rfl
theorem pN19x13_any (a0 : Int) (h0 : 19 ≤ a0 ∧ a0 ≤ 19) (a1 : Int) (h1 : 13 ≤ a1 ∧ a1 ≤ 13) (w : World) : Calls Tryz.prog 6 #[.int .i64 a0, .int .i64 a1] w fun e w' => e = .returned (.bool true) ∧ Kp [] w w' := by
  obtain rfl : a0 = 19 := by omega
  obtain rfl : a1 = 13 := by omega
  exact run_bool (ds := pN19x13_dead) follows_mixed plans_ok hubDeaf.sumsG_ok (pN19x13_run) pN19x13_ok (fun i => if i = 0 then 19 else if i = 1 then 13 else 0) (fun x hx => by cases hx) (rgOk_cons (⟨Int.le_refl _, Int.le_refl _⟩) (rgOk_cons (⟨Int.le_refl _, Int.le_refl _⟩) (rgOk_nil))) (fun d hd => by simp [pN19x13_dead] at hd) (xs := [.int .i64 19, .int .i64 13]) (by rfl) w

def pN19x14_dead : List (List (SB × Bool)) := []
noncomputable def pN19x14_tree : R := fillT endT []
set_option maxRecDepth 1000000 in
theorem pN19x14_run : evCall Tryz.prog plans hubDeaf.sumsG 100000 6 [.int .i64 (.lit (.ofNat 19)), .int .i64 (.lit (.ofNat 14))] (s0 [] [[]] [((.ofNat 19), (.ofNat 19)), ((.ofNat 14), (.ofNat 14))]) finK = pN19x14_tree := by kernel_rfl
set_option maxRecDepth 1000000 in
theorem pN19x14_ok : okTree pN19x14_tree true [] pN19x14_dead = true := by kernel_rfl
theorem pN19x14_any (a0 : Int) (h0 : 19 ≤ a0 ∧ a0 ≤ 19) (a1 : Int) (h1 : 14 ≤ a1 ∧ a1 ≤ 14) (w : World) : Calls Tryz.prog 6 #[.int .i64 a0, .int .i64 a1] w fun e w' => e = .returned (.bool true) ∧ Kp [] w w' := by
  obtain rfl : a0 = 19 := by omega
  obtain rfl : a1 = 14 := by omega
  exact run_bool (ds := pN19x14_dead) follows_mixed plans_ok hubDeaf.sumsG_ok (pN19x14_run) pN19x14_ok (fun i => if i = 0 then 19 else if i = 1 then 14 else 0) (fun x hx => by cases hx) (rgOk_cons (⟨Int.le_refl _, Int.le_refl _⟩) (rgOk_cons (⟨Int.le_refl _, Int.le_refl _⟩) (rgOk_nil))) (fun d hd => by simp [pN19x14_dead] at hd) (xs := [.int .i64 19, .int .i64 14]) (by rfl) w

def pN19x15_dead : List (List (SB × Bool)) := []
noncomputable def pN19x15_tree : R := fillT endT []
set_option maxRecDepth 1000000 in
theorem pN19x15_run : evCall Tryz.prog plans hubDeaf.sumsG 100000 6 [.int .i64 (.lit (.ofNat 19)), .int .i64 (.lit (.ofNat 15))] (s0 [] [[]] [((.ofNat 19), (.ofNat 19)), ((.ofNat 15), (.ofNat 15))]) finK = pN19x15_tree := by kernel_rfl
set_option maxRecDepth 1000000 in
theorem pN19x15_ok : okTree pN19x15_tree true [] pN19x15_dead = true := by kernel_rfl
theorem pN19x15_any (a0 : Int) (h0 : 19 ≤ a0 ∧ a0 ≤ 19) (a1 : Int) (h1 : 15 ≤ a1 ∧ a1 ≤ 15) (w : World) : Calls Tryz.prog 6 #[.int .i64 a0, .int .i64 a1] w fun e w' => e = .returned (.bool true) ∧ Kp [] w w' := by
  obtain rfl : a0 = 19 := by omega
  obtain rfl : a1 = 15 := by omega
  exact run_bool (ds := pN19x15_dead) follows_mixed plans_ok hubDeaf.sumsG_ok (pN19x15_run) pN19x15_ok (fun i => if i = 0 then 19 else if i = 1 then 15 else 0) (fun x hx => by cases hx) (rgOk_cons (⟨Int.le_refl _, Int.le_refl _⟩) (rgOk_cons (⟨Int.le_refl _, Int.le_refl _⟩) (rgOk_nil))) (fun d hd => by simp [pN19x15_dead] at hd) (xs := [.int .i64 19, .int .i64 15]) (by rfl) w

def pN19x16_dead : List (List (SB × Bool)) := []
noncomputable def pN19x16_tree : R := fillT endT []
set_option maxRecDepth 1000000 in
theorem pN19x16_run : evCall Tryz.prog plans hubDeaf.sumsG 100000 6 [.int .i64 (.lit (.ofNat 19)), .int .i64 (.lit (.ofNat 16))] (s0 [] [[]] [((.ofNat 19), (.ofNat 19)), ((.ofNat 16), (.ofNat 16))]) finK = pN19x16_tree := by kernel_rfl
set_option maxRecDepth 1000000 in
theorem pN19x16_ok : okTree pN19x16_tree true [] pN19x16_dead = true := by kernel_rfl
theorem pN19x16_any (a0 : Int) (h0 : 19 ≤ a0 ∧ a0 ≤ 19) (a1 : Int) (h1 : 16 ≤ a1 ∧ a1 ≤ 16) (w : World) : Calls Tryz.prog 6 #[.int .i64 a0, .int .i64 a1] w fun e w' => e = .returned (.bool true) ∧ Kp [] w w' := by
  obtain rfl : a0 = 19 := by omega
  obtain rfl : a1 = 16 := by omega
  exact run_bool (ds := pN19x16_dead) follows_mixed plans_ok hubDeaf.sumsG_ok (pN19x16_run) pN19x16_ok (fun i => if i = 0 then 19 else if i = 1 then 16 else 0) (fun x hx => by cases hx) (rgOk_cons (⟨Int.le_refl _, Int.le_refl _⟩) (rgOk_cons (⟨Int.le_refl _, Int.le_refl _⟩) (rgOk_nil))) (fun d hd => by simp [pN19x16_dead] at hd) (xs := [.int .i64 19, .int .i64 16]) (by rfl) w

def pN19x17_dead : List (List (SB × Bool)) := []
noncomputable def pN19x17_tree : R := fillT endT []
set_option maxRecDepth 1000000 in
theorem pN19x17_run : evCall Tryz.prog plans hubDeaf.sumsG 100000 6 [.int .i64 (.lit (.ofNat 19)), .int .i64 (.lit (.ofNat 17))] (s0 [] [[]] [((.ofNat 19), (.ofNat 19)), ((.ofNat 17), (.ofNat 17))]) finK = pN19x17_tree := by kernel_rfl
set_option maxRecDepth 1000000 in
theorem pN19x17_ok : okTree pN19x17_tree true [] pN19x17_dead = true := by kernel_rfl
theorem pN19x17_any (a0 : Int) (h0 : 19 ≤ a0 ∧ a0 ≤ 19) (a1 : Int) (h1 : 17 ≤ a1 ∧ a1 ≤ 17) (w : World) : Calls Tryz.prog 6 #[.int .i64 a0, .int .i64 a1] w fun e w' => e = .returned (.bool true) ∧ Kp [] w w' := by
  obtain rfl : a0 = 19 := by omega
  obtain rfl : a1 = 17 := by omega
  exact run_bool (ds := pN19x17_dead) follows_mixed plans_ok hubDeaf.sumsG_ok (pN19x17_run) pN19x17_ok (fun i => if i = 0 then 19 else if i = 1 then 17 else 0) (fun x hx => by cases hx) (rgOk_cons (⟨Int.le_refl _, Int.le_refl _⟩) (rgOk_cons (⟨Int.le_refl _, Int.le_refl _⟩) (rgOk_nil))) (fun d hd => by simp [pN19x17_dead] at hd) (xs := [.int .i64 19, .int .i64 17]) (by rfl) w

def pN19x18_dead : List (List (SB × Bool)) := []
noncomputable def pN19x18_tree : R := fillT endT []
set_option maxRecDepth 1000000 in
theorem pN19x18_run : evCall Tryz.prog plans hubDeaf.sumsG 100000 6 [.int .i64 (.lit (.ofNat 19)), .int .i64 (.lit (.ofNat 18))] (s0 [] [[]] [((.ofNat 19), (.ofNat 19)), ((.ofNat 18), (.ofNat 18))]) finK = pN19x18_tree := by kernel_rfl
set_option maxRecDepth 1000000 in
theorem pN19x18_ok : okTree pN19x18_tree true [] pN19x18_dead = true := by kernel_rfl
theorem pN19x18_any (a0 : Int) (h0 : 19 ≤ a0 ∧ a0 ≤ 19) (a1 : Int) (h1 : 18 ≤ a1 ∧ a1 ≤ 18) (w : World) : Calls Tryz.prog 6 #[.int .i64 a0, .int .i64 a1] w fun e w' => e = .returned (.bool true) ∧ Kp [] w w' := by
  obtain rfl : a0 = 19 := by omega
  obtain rfl : a1 = 18 := by omega
  exact run_bool (ds := pN19x18_dead) follows_mixed plans_ok hubDeaf.sumsG_ok (pN19x18_run) pN19x18_ok (fun i => if i = 0 then 19 else if i = 1 then 18 else 0) (fun x hx => by cases hx) (rgOk_cons (⟨Int.le_refl _, Int.le_refl _⟩) (rgOk_cons (⟨Int.le_refl _, Int.le_refl _⟩) (rgOk_nil))) (fun d hd => by simp [pN19x18_dead] at hd) (xs := [.int .i64 19, .int .i64 18]) (by rfl) w

def pN19x19_dead : List (List (SB × Bool)) := []
noncomputable def pN19x19_tree : R := fillT endT []
set_option maxRecDepth 1000000 in
theorem pN19x19_run : evCall Tryz.prog plans hubDeaf.sumsG 100000 6 [.int .i64 (.lit (.ofNat 19)), .int .i64 (.lit (.ofNat 19))] (s0 [] [[]] [((.ofNat 19), (.ofNat 19)), ((.ofNat 19), (.ofNat 19))]) finK = pN19x19_tree := by kernel_rfl
set_option maxRecDepth 1000000 in
theorem pN19x19_ok : okTree pN19x19_tree true [] pN19x19_dead = true := by kernel_rfl
theorem pN19x19_any (a0 : Int) (h0 : 19 ≤ a0 ∧ a0 ≤ 19) (a1 : Int) (h1 : 19 ≤ a1 ∧ a1 ≤ 19) (w : World) : Calls Tryz.prog 6 #[.int .i64 a0, .int .i64 a1] w fun e w' => e = .returned (.bool true) ∧ Kp [] w w' := by
  obtain rfl : a0 = 19 := by omega
  obtain rfl : a1 = 19 := by omega
  exact run_bool (ds := pN19x19_dead) follows_mixed plans_ok hubDeaf.sumsG_ok (pN19x19_run) pN19x19_ok (fun i => if i = 0 then 19 else if i = 1 then 19 else 0) (fun x hx => by cases hx) (rgOk_cons (⟨Int.le_refl _, Int.le_refl _⟩) (rgOk_cons (⟨Int.le_refl _, Int.le_refl _⟩) (rgOk_nil))) (fun d hd => by simp [pN19x19_dead] at hd) (xs := [.int .i64 19, .int .i64 19]) (by rfl) w

def pN20x0_dead : List (List (SB × Bool)) := []
noncomputable def pN20x0_tree : R := fillT endT []
set_option maxRecDepth 1000000 in
theorem pN20x0_run : evCall Tryz.prog plans hubDeaf.sumsG 100000 6 [.int .i64 (.lit (.ofNat 20)), .int .i64 (.lit (.ofNat 0))] (s0 [] [[]] [((.ofNat 20), (.ofNat 20)), ((.ofNat 0), (.ofNat 0))]) finK = pN20x0_tree := by kernel_rfl
set_option maxRecDepth 1000000 in
theorem pN20x0_ok : okTree pN20x0_tree true [] pN20x0_dead = true := by kernel_rfl
theorem pN20x0_any (a0 : Int) (h0 : 20 ≤ a0 ∧ a0 ≤ 20) (a1 : Int) (h1 : 0 ≤ a1 ∧ a1 ≤ 0) (w : World) : Calls Tryz.prog 6 #[.int .i64 a0, .int .i64 a1] w fun e w' => e = .returned (.bool true) ∧ Kp [] w w' := by
  obtain rfl : a0 = 20 := by omega
  obtain rfl : a1 = 0 := by omega
  exact run_bool (ds := pN20x0_dead) follows_mixed plans_ok hubDeaf.sumsG_ok (pN20x0_run) pN20x0_ok (fun i => if i = 0 then 20 else if i = 1 then 0 else 0) (fun x hx => by cases hx) (rgOk_cons (⟨Int.le_refl _, Int.le_refl _⟩) (rgOk_cons (⟨Int.le_refl _, Int.le_refl _⟩) (rgOk_nil))) (fun d hd => by simp [pN20x0_dead] at hd) (xs := [.int .i64 20, .int .i64 0]) (by rfl) w

def pN20x1_dead : List (List (SB × Bool)) := []
noncomputable def pN20x1_tree : R := fillT endT []
set_option maxRecDepth 1000000 in
theorem pN20x1_run : evCall Tryz.prog plans hubDeaf.sumsG 100000 6 [.int .i64 (.lit (.ofNat 20)), .int .i64 (.lit (.ofNat 1))] (s0 [] [[]] [((.ofNat 20), (.ofNat 20)), ((.ofNat 1), (.ofNat 1))]) finK = pN20x1_tree := by kernel_rfl
set_option maxRecDepth 1000000 in
theorem pN20x1_ok : okTree pN20x1_tree true [] pN20x1_dead = true := by kernel_rfl
theorem pN20x1_any (a0 : Int) (h0 : 20 ≤ a0 ∧ a0 ≤ 20) (a1 : Int) (h1 : 1 ≤ a1 ∧ a1 ≤ 1) (w : World) : Calls Tryz.prog 6 #[.int .i64 a0, .int .i64 a1] w fun e w' => e = .returned (.bool true) ∧ Kp [] w w' := by
  obtain rfl : a0 = 20 := by omega
  obtain rfl : a1 = 1 := by omega
  exact run_bool (ds := pN20x1_dead) follows_mixed plans_ok hubDeaf.sumsG_ok (pN20x1_run) pN20x1_ok (fun i => if i = 0 then 20 else if i = 1 then 1 else 0) (fun x hx => by cases hx) (rgOk_cons (⟨Int.le_refl _, Int.le_refl _⟩) (rgOk_cons (⟨Int.le_refl _, Int.le_refl _⟩) (rgOk_nil))) (fun d hd => by simp [pN20x1_dead] at hd) (xs := [.int .i64 20, .int .i64 1]) (by rfl) w

def pN20x2_dead : List (List (SB × Bool)) := []
noncomputable def pN20x2_tree : R := fillT endT []
set_option maxRecDepth 1000000 in
theorem pN20x2_run : evCall Tryz.prog plans hubDeaf.sumsG 100000 6 [.int .i64 (.lit (.ofNat 20)), .int .i64 (.lit (.ofNat 2))] (s0 [] [[]] [((.ofNat 20), (.ofNat 20)), ((.ofNat 2), (.ofNat 2))]) finK = pN20x2_tree := by kernel_rfl
set_option maxRecDepth 1000000 in
theorem pN20x2_ok : okTree pN20x2_tree true [] pN20x2_dead = true := by kernel_rfl
theorem pN20x2_any (a0 : Int) (h0 : 20 ≤ a0 ∧ a0 ≤ 20) (a1 : Int) (h1 : 2 ≤ a1 ∧ a1 ≤ 2) (w : World) : Calls Tryz.prog 6 #[.int .i64 a0, .int .i64 a1] w fun e w' => e = .returned (.bool true) ∧ Kp [] w w' := by
  obtain rfl : a0 = 20 := by omega
  obtain rfl : a1 = 2 := by omega
  exact run_bool (ds := pN20x2_dead) follows_mixed plans_ok hubDeaf.sumsG_ok (pN20x2_run) pN20x2_ok (fun i => if i = 0 then 20 else if i = 1 then 2 else 0) (fun x hx => by cases hx) (rgOk_cons (⟨Int.le_refl _, Int.le_refl _⟩) (rgOk_cons (⟨Int.le_refl _, Int.le_refl _⟩) (rgOk_nil))) (fun d hd => by simp [pN20x2_dead] at hd) (xs := [.int .i64 20, .int .i64 2]) (by rfl) w

def pN20x3_dead : List (List (SB × Bool)) := []
noncomputable def pN20x3_tree : R := fillT endT []
set_option maxRecDepth 1000000 in
theorem pN20x3_run : evCall Tryz.prog plans hubDeaf.sumsG 100000 6 [.int .i64 (.lit (.ofNat 20)), .int .i64 (.lit (.ofNat 3))] (s0 [] [[]] [((.ofNat 20), (.ofNat 20)), ((.ofNat 3), (.ofNat 3))]) finK = pN20x3_tree := by kernel_rfl
set_option maxRecDepth 1000000 in
theorem pN20x3_ok : okTree pN20x3_tree true [] pN20x3_dead = true := by kernel_rfl
theorem pN20x3_any (a0 : Int) (h0 : 20 ≤ a0 ∧ a0 ≤ 20) (a1 : Int) (h1 : 3 ≤ a1 ∧ a1 ≤ 3) (w : World) : Calls Tryz.prog 6 #[.int .i64 a0, .int .i64 a1] w fun e w' => e = .returned (.bool true) ∧ Kp [] w w' := by
  obtain rfl : a0 = 20 := by omega
  obtain rfl : a1 = 3 := by omega
  exact run_bool (ds := pN20x3_dead) follows_mixed plans_ok hubDeaf.sumsG_ok (pN20x3_run) pN20x3_ok (fun i => if i = 0 then 20 else if i = 1 then 3 else 0) (fun x hx => by cases hx) (rgOk_cons (⟨Int.le_refl _, Int.le_refl _⟩) (rgOk_cons (⟨Int.le_refl _, Int.le_refl _⟩) (rgOk_nil))) (fun d hd => by simp [pN20x3_dead] at hd) (xs := [.int .i64 20, .int .i64 3]) (by rfl) w

def pN20x4_dead : List (List (SB × Bool)) := []
noncomputable def pN20x4_tree : R := fillT endT []
set_option maxRecDepth 1000000 in
theorem pN20x4_run : evCall Tryz.prog plans hubDeaf.sumsG 100000 6 [.int .i64 (.lit (.ofNat 20)), .int .i64 (.lit (.ofNat 4))] (s0 [] [[]] [((.ofNat 20), (.ofNat 20)), ((.ofNat 4), (.ofNat 4))]) finK = pN20x4_tree := by kernel_rfl
set_option maxRecDepth 1000000 in
theorem pN20x4_ok : okTree pN20x4_tree true [] pN20x4_dead = true := by kernel_rfl
theorem pN20x4_any (a0 : Int) (h0 : 20 ≤ a0 ∧ a0 ≤ 20) (a1 : Int) (h1 : 4 ≤ a1 ∧ a1 ≤ 4) (w : World) : Calls Tryz.prog 6 #[.int .i64 a0, .int .i64 a1] w fun e w' => e = .returned (.bool true) ∧ Kp [] w w' := by
  obtain rfl : a0 = 20 := by omega
  obtain rfl : a1 = 4 := by omega
  exact run_bool (ds := pN20x4_dead) follows_mixed plans_ok hubDeaf.sumsG_ok (pN20x4_run) pN20x4_ok (fun i => if i = 0 then 20 else if i = 1 then 4 else 0) (fun x hx => by cases hx) (rgOk_cons (⟨Int.le_refl _, Int.le_refl _⟩) (rgOk_cons (⟨Int.le_refl _, Int.le_refl _⟩) (rgOk_nil))) (fun d hd => by simp [pN20x4_dead] at hd) (xs := [.int .i64 20, .int .i64 4]) (by rfl) w

def pN20x5_dead : List (List (SB × Bool)) := []
noncomputable def pN20x5_tree : R := fillT endT []
set_option maxRecDepth 1000000 in
theorem pN20x5_run : evCall Tryz.prog plans hubDeaf.sumsG 100000 6 [.int .i64 (.lit (.ofNat 20)), .int .i64 (.lit (.ofNat 5))] (s0 [] [[]] [((.ofNat 20), (.ofNat 20)), ((.ofNat 5), (.ofNat 5))]) finK = pN20x5_tree := by kernel_rfl
set_option maxRecDepth 1000000 in
theorem pN20x5_ok : okTree pN20x5_tree true [] pN20x5_dead = true := by kernel_rfl
theorem pN20x5_any (a0 : Int) (h0 : 20 ≤ a0 ∧ a0 ≤ 20) (a1 : Int) (h1 : 5 ≤ a1 ∧ a1 ≤ 5) (w : World) : Calls Tryz.prog 6 #[.int .i64 a0, .int .i64 a1] w fun e w' => e = .returned (.bool true) ∧ Kp [] w w' := by
  obtain rfl : a0 = 20 := by omega
  obtain rfl : a1 = 5 := by omega
  exact run_bool (ds := pN20x5_dead) follows_mixed plans_ok hubDeaf.sumsG_ok (pN20x5_run) pN20x5_ok (fun i => if i = 0 then 20 else if i = 1 then 5 else 0) (fun x hx => by cases hx) (rgOk_cons (⟨Int.le_refl _, Int.le_refl _⟩) (rgOk_cons (⟨Int.le_refl _, Int.le_refl _⟩) (rgOk_nil))) (fun d hd => by simp [pN20x5_dead] at hd) (xs := [.int .i64 20, .int .i64 5]) (by rfl) w

def pN20x6_dead : List (List (SB × Bool)) := []
noncomputable def pN20x6_tree : R := fillT endT []
set_option maxRecDepth 1000000 in
theorem pN20x6_run : evCall Tryz.prog plans hubDeaf.sumsG 100000 6 [.int .i64 (.lit (.ofNat 20)), .int .i64 (.lit (.ofNat 6))] (s0 [] [[]] [((.ofNat 20), (.ofNat 20)), ((.ofNat 6), (.ofNat 6))]) finK = pN20x6_tree := by kernel_rfl
set_option maxRecDepth 1000000 in
theorem pN20x6_ok : okTree pN20x6_tree true [] pN20x6_dead = true := by kernel_rfl
theorem pN20x6_any (a0 : Int) (h0 : 20 ≤ a0 ∧ a0 ≤ 20) (a1 : Int) (h1 : 6 ≤ a1 ∧ a1 ≤ 6) (w : World) : Calls Tryz.prog 6 #[.int .i64 a0, .int .i64 a1] w fun e w' => e = .returned (.bool true) ∧ Kp [] w w' := by
  obtain rfl : a0 = 20 := by omega
  obtain rfl : a1 = 6 := by omega
  exact run_bool (ds := pN20x6_dead) follows_mixed plans_ok hubDeaf.sumsG_ok (pN20x6_run) pN20x6_ok (fun i => if i = 0 then 20 else if i = 1 then 6 else 0) (fun x hx => by cases hx) (rgOk_cons (⟨Int.le_refl _, Int.le_refl _⟩) (rgOk_cons (⟨Int.le_refl _, Int.le_refl _⟩) (rgOk_nil))) (fun d hd => by simp [pN20x6_dead] at hd) (xs := [.int .i64 20, .int .i64 6]) (by rfl) w

def pN20x7_dead : List (List (SB × Bool)) := []
noncomputable def pN20x7_tree : R := fillT endT []
set_option maxRecDepth 1000000 in
theorem pN20x7_run : evCall Tryz.prog plans hubDeaf.sumsG 100000 6 [.int .i64 (.lit (.ofNat 20)), .int .i64 (.lit (.ofNat 7))] (s0 [] [[]] [((.ofNat 20), (.ofNat 20)), ((.ofNat 7), (.ofNat 7))]) finK = pN20x7_tree := by kernel_rfl
set_option maxRecDepth 1000000 in
theorem pN20x7_ok : okTree pN20x7_tree true [] pN20x7_dead = true := by kernel_rfl
theorem pN20x7_any (a0 : Int) (h0 : 20 ≤ a0 ∧ a0 ≤ 20) (a1 : Int) (h1 : 7 ≤ a1 ∧ a1 ≤ 7) (w : World) : Calls Tryz.prog 6 #[.int .i64 a0, .int .i64 a1] w fun e w' => e = .returned (.bool true) ∧ Kp [] w w' := by
  obtain rfl : a0 = 20 := by omega
  obtain rfl : a1 = 7 := by omega
  exact run_bool (ds := pN20x7_dead) follows_mixed plans_ok hubDeaf.sumsG_ok (pN20x7_run) pN20x7_ok (fun i => if i = 0 then 20 else if i = 1 then 7 else 0) (fun x hx => by cases hx) (rgOk_cons (⟨Int.le_refl _, Int.le_refl _⟩) (rgOk_cons (⟨Int.le_refl _, Int.le_refl _⟩) (rgOk_nil))) (fun d hd => by simp [pN20x7_dead] at hd) (xs := [.int .i64 20, .int .i64 7]) (by rfl) w

def pN20x8_dead : List (List (SB × Bool)) := []
noncomputable def pN20x8_tree : R := fillT endT []
set_option maxRecDepth 1000000 in
theorem pN20x8_run : evCall Tryz.prog plans hubDeaf.sumsG 100000 6 [.int .i64 (.lit (.ofNat 20)), .int .i64 (.lit (.ofNat 8))] (s0 [] [[]] [((.ofNat 20), (.ofNat 20)), ((.ofNat 8), (.ofNat 8))]) finK = pN20x8_tree := by kernel_rfl
set_option maxRecDepth 1000000 in
theorem pN20x8_ok : okTree pN20x8_tree true [] pN20x8_dead = true := by kernel_rfl
theorem pN20x8_any (a0 : Int) (h0 : 20 ≤ a0 ∧ a0 ≤ 20) (a1 : Int) (h1 : 8 ≤ a1 ∧ a1 ≤ 8) (w : World) : Calls Tryz.prog 6 #[.int .i64 a0, .int .i64 a1] w fun e w' => e = .returned (.bool true) ∧ Kp [] w w' := by
  obtain rfl : a0 = 20 := by omega
  obtain rfl : a1 = 8 := by omega
  exact run_bool (ds := pN20x8_dead) follows_mixed plans_ok hubDeaf.sumsG_ok (pN20x8_run) pN20x8_ok (fun i => if i = 0 then 20 else if i = 1 then 8 else 0) (fun x hx => by cases hx) (rgOk_cons (⟨Int.le_refl _, Int.le_refl _⟩) (rgOk_cons (⟨Int.le_refl _, Int.le_refl _⟩) (rgOk_nil))) (fun d hd => by simp [pN20x8_dead] at hd) (xs := [.int .i64 20, .int .i64 8]) (by rfl) w

def pN20x9_dead : List (List (SB × Bool)) := []
noncomputable def pN20x9_tree : R := fillT endT []
set_option maxRecDepth 1000000 in
theorem pN20x9_run : evCall Tryz.prog plans hubDeaf.sumsG 100000 6 [.int .i64 (.lit (.ofNat 20)), .int .i64 (.lit (.ofNat 9))] (s0 [] [[]] [((.ofNat 20), (.ofNat 20)), ((.ofNat 9), (.ofNat 9))]) finK = pN20x9_tree := by kernel_rfl
set_option maxRecDepth 1000000 in
theorem pN20x9_ok : okTree pN20x9_tree true [] pN20x9_dead = true := by kernel_rfl
theorem pN20x9_any (a0 : Int) (h0 : 20 ≤ a0 ∧ a0 ≤ 20) (a1 : Int) (h1 : 9 ≤ a1 ∧ a1 ≤ 9) (w : World) : Calls Tryz.prog 6 #[.int .i64 a0, .int .i64 a1] w fun e w' => e = .returned (.bool true) ∧ Kp [] w w' := by
  obtain rfl : a0 = 20 := by omega
  obtain rfl : a1 = 9 := by omega
  exact run_bool (ds := pN20x9_dead) follows_mixed plans_ok hubDeaf.sumsG_ok (pN20x9_run) pN20x9_ok (fun i => if i = 0 then 20 else if i = 1 then 9 else 0) (fun x hx => by cases hx) (rgOk_cons (⟨Int.le_refl _, Int.le_refl _⟩) (rgOk_cons (⟨Int.le_refl _, Int.le_refl _⟩) (rgOk_nil))) (fun d hd => by simp [pN20x9_dead] at hd) (xs := [.int .i64 20, .int .i64 9]) (by rfl) w

def pN20x10_dead : List (List (SB × Bool)) := []
noncomputable def pN20x10_tree : R := fillT endT []
set_option maxRecDepth 1000000 in
theorem pN20x10_run : evCall Tryz.prog plans hubDeaf.sumsG 100000 6 [.int .i64 (.lit (.ofNat 20)), .int .i64 (.lit (.ofNat 10))] (s0 [] [[]] [((.ofNat 20), (.ofNat 20)), ((.ofNat 10), (.ofNat 10))]) finK = pN20x10_tree := by kernel_rfl
set_option maxRecDepth 1000000 in
theorem pN20x10_ok : okTree pN20x10_tree true [] pN20x10_dead = true := by kernel_rfl
theorem pN20x10_any (a0 : Int) (h0 : 20 ≤ a0 ∧ a0 ≤ 20) (a1 : Int) (h1 : 10 ≤ a1 ∧ a1 ≤ 10) (w : World) : Calls Tryz.prog 6 #[.int .i64 a0, .int .i64 a1] w fun e w' => e = .returned (.bool true) ∧ Kp [] w w' := by
  obtain rfl : a0 = 20 := by omega
  obtain rfl : a1 = 10 := by omega
  exact run_bool (ds := pN20x10_dead) follows_mixed plans_ok hubDeaf.sumsG_ok (pN20x10_run) pN20x10_ok (fun i => if i = 0 then 20 else if i = 1 then 10 else 0) (fun x hx => by cases hx) (rgOk_cons (⟨Int.le_refl _, Int.le_refl _⟩) (rgOk_cons (⟨Int.le_refl _, Int.le_refl _⟩) (rgOk_nil))) (fun d hd => by simp [pN20x10_dead] at hd) (xs := [.int .i64 20, .int .i64 10]) (by rfl) w

def pN20x11_dead : List (List (SB × Bool)) := []
noncomputable def pN20x11_tree : R := fillT endT []
set_option maxRecDepth 1000000 in
theorem pN20x11_run : evCall Tryz.prog plans hubDeaf.sumsG 100000 6 [.int .i64 (.lit (.ofNat 20)), .int .i64 (.lit (.ofNat 11))] (s0 [] [[]] [((.ofNat 20), (.ofNat 20)), ((.ofNat 11), (.ofNat 11))]) finK = pN20x11_tree := by kernel_rfl
set_option maxRecDepth 1000000 in
theorem pN20x11_ok : okTree pN20x11_tree true [] pN20x11_dead = true := by kernel_rfl
theorem pN20x11_any (a0 : Int) (h0 : 20 ≤ a0 ∧ a0 ≤ 20) (a1 : Int) (h1 : 11 ≤ a1 ∧ a1 ≤ 11) (w : World) : Calls Tryz.prog 6 #[.int .i64 a0, .int .i64 a1] w fun e w' => e = .returned (.bool true) ∧ Kp [] w w' := by
  obtain rfl : a0 = 20 := by omega
  obtain rfl : a1 = 11 := by omega
  exact run_bool (ds := pN20x11_dead) follows_mixed plans_ok hubDeaf.sumsG_ok (pN20x11_run) pN20x11_ok (fun i => if i = 0 then 20 else if i = 1 then 11 else 0) (fun x hx => by cases hx) (rgOk_cons (⟨Int.le_refl _, Int.le_refl _⟩) (rgOk_cons (⟨Int.le_refl _, Int.le_refl _⟩) (rgOk_nil))) (fun d hd => by simp [pN20x11_dead] at hd) (xs := [.int .i64 20, .int .i64 11]) (by rfl) w

def pN20x12_dead : List (List (SB × Bool)) := []
noncomputable def pN20x12_tree : R := fillT endT []
set_option maxRecDepth 1000000 in
theorem pN20x12_run : evCall Tryz.prog plans hubDeaf.sumsG 100000 6 [.int .i64 (.lit (.ofNat 20)), .int .i64 (.lit (.ofNat 12))] (s0 [] [[]] [((.ofNat 20), (.ofNat 20)), ((.ofNat 12), (.ofNat 12))]) finK = pN20x12_tree := by kernel_rfl
set_option maxRecDepth 1000000 in
theorem pN20x12_ok : okTree pN20x12_tree true [] pN20x12_dead = true := by kernel_rfl
theorem pN20x12_any (a0 : Int) (h0 : 20 ≤ a0 ∧ a0 ≤ 20) (a1 : Int) (h1 : 12 ≤ a1 ∧ a1 ≤ 12) (w : World) : Calls Tryz.prog 6 #[.int .i64 a0, .int .i64 a1] w fun e w' => e = .returned (.bool true) ∧ Kp [] w w' := by
  obtain rfl : a0 = 20 := by omega
  obtain rfl : a1 = 12 := by omega
  exact run_bool (ds := pN20x12_dead) follows_mixed plans_ok hubDeaf.sumsG_ok (pN20x12_run) pN20x12_ok (fun i => if i = 0 then 20 else if i = 1 then 12 else 0) (fun x hx => by cases hx) (rgOk_cons (⟨Int.le_refl _, Int.le_refl _⟩) (rgOk_cons (⟨Int.le_refl _, Int.le_refl _⟩) (rgOk_nil))) (fun d hd => by simp [pN20x12_dead] at hd) (xs := [.int .i64 20, .int .i64 12]) (by rfl) w

def pN20x13_dead : List (List (SB × Bool)) := []
noncomputable def pN20x13_tree : R := fillT endT []
set_option maxRecDepth 1000000 in
theorem pN20x13_run : evCall Tryz.prog plans hubDeaf.sumsG 100000 6 [.int .i64 (.lit (.ofNat 20)), .int .i64 (.lit (.ofNat 13))] (s0 [] [[]] [((.ofNat 20), (.ofNat 20)), ((.ofNat 13), (.ofNat 13))]) finK = pN20x13_tree := by kernel_rfl
set_option maxRecDepth 1000000 in
theorem pN20x13_ok : okTree pN20x13_tree true [] pN20x13_dead = true := by kernel_rfl
theorem pN20x13_any (a0 : Int) (h0 : 20 ≤ a0 ∧ a0 ≤ 20) (a1 : Int) (h1 : 13 ≤ a1 ∧ a1 ≤ 13) (w : World) : Calls Tryz.prog 6 #[.int .i64 a0, .int .i64 a1] w fun e w' => e = .returned (.bool true) ∧ Kp [] w w' := by
  obtain rfl : a0 = 20 := by omega
  obtain rfl : a1 = 13 := by omega
  exact run_bool (ds := pN20x13_dead) follows_mixed plans_ok hubDeaf.sumsG_ok (pN20x13_run) pN20x13_ok (fun i => if i = 0 then 20 else if i = 1 then 13 else 0) (fun x hx => by cases hx) (rgOk_cons (⟨Int.le_refl _, Int.le_refl _⟩) (rgOk_cons (⟨Int.le_refl _, Int.le_refl _⟩) (rgOk_nil))) (fun d hd => by simp [pN20x13_dead] at hd) (xs := [.int .i64 20, .int .i64 13]) (by rfl) w

end Go.Proofs.YtlmpmmcefdhgmaaGreat.hubDeaf

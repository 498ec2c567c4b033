/-
  HubDeaf: runs, N15x8, N15x9, N15x10, N15x11, N15x12, N15x13, N15x14, N15x15, N16x0, N16x1, N16x2, N16x3, N16x4, N16x5, N16x6, N16x7, N16x8, N16x9, N16x10, N16x11, N16x12, N16x13, N16x14, N16x15, N16x16, N17x0, N17x1, N17x2, N17x3, N17x4, N17x5, N17x6.
-/
import Derived.Test.YtlmpmmcefdhgmaaGreatSgDS
import Derived.Test.YtlmpmmcefdhgmaaGreatRs
import Derived.Test.YtlmpmmcefdhgmaaGreatPlsOk
set_option linter.unusedVariables false
set_option linter.unusedSimpArgs false
namespace Go.Proofs.YtlmpmmcefdhgmaaGreat.hubDeaf
open Go

def pN15x8_dead : List (List (SB × Bool)) := []
noncomputable def pN15x8_tree : R := fillT endT []
set_option maxRecDepth 1000000 in
theorem pN15x8_run : evCall Tryz.prog plans hubDeaf.sumsG 100000 6 [.int .i64 (.lit (.ofNat 15)), .int .i64 (.lit (.ofNat 8))] (s0 [] [[]] [((.ofNat 15), (.ofNat 15)), ((.ofNat 8), (.ofNat 8))]) finK = pN15x8_tree := by kernel_rfl
set_option maxRecDepth 1000000 in
theorem pN15x8_ok : okTree pN15x8_tree true [] pN15x8_dead = true := by kernel_rfl
theorem pN15x8_any (a0 : Int) (h0 : 15 ≤ a0 ∧ a0 ≤ 15) (a1 : Int) (h1 : 8 ≤ a1 ∧ a1 ≤ 8) (w : World) : Calls Tryz.prog 6 #[.int .i64 a0, .int .i64 a1] w fun e w' => e = .returned (.bool true) ∧ Kp [] w w' := by
  obtain rfl : a0 = 15 := by omega
  obtain rfl : a1 = 8 := by omega
  exact run_bool (ds := pN15x8_dead) follows_mixed plans_ok hubDeaf.sumsG_ok (pN15x8_run) pN15x8_ok (fun i => if i = 0 then 15 else if i = 1 then 8 else 0) (fun x hx => by cases hx) (rgOk_cons (⟨Int.le_refl _, Int.le_refl _⟩) (rgOk_cons (⟨Int.le_refl _, Int.le_refl _⟩) (rgOk_nil))) (fun d hd => by simp [pN15x8_dead] at hd) (xs := [.int .i64 15, .int .i64 8]) (by rfl) w

def pN15x9_dead : List (List (SB × Bool)) := []
noncomputable def pN15x9_tree : R := fillT endT []
set_option maxRecDepth 1000000 in
theorem pN15x9_run : evCall Tryz.prog plans hubDeaf.sumsG 100000 6 [.int .i64 (.lit (.ofNat 15)), .int .i64 (.lit (.ofNat 9))] (s0 [] [[]] [((.ofNat 15), (.ofNat 15)), ((.ofNat 9), (.ofNat 9))]) finK = pN15x9_tree := by kernel_rfl
set_option maxRecDepth 1000000 in
theorem pN15x9_ok : okTree pN15x9_tree true [] pN15x9_dead = true := by kernel_rfl
theorem pN15x9_any (a0 : Int) (h0 : 15 ≤ a0 ∧ a0 ≤ 15) (a1 : Int) (h1 : 9 ≤ a1 ∧ a1 ≤ 9) (w : World) : Calls Tryz.prog 6 #[.int .i64 a0, .int .i64 a1] w fun e w' => e = .returned (.bool true) ∧ Kp [] w w' := by
  obtain rfl : a0 = 15 := by omega
  obtain rfl : a1 = 9 := by omega
  exact run_bool (ds := pN15x9_dead) follows_mixed plans_ok hubDeaf.sumsG_ok (pN15x9_run) pN15x9_ok (fun i => if i = 0 then 15 else if i = 1 then 9 else 0) (fun x hx => by cases hx) (rgOk_cons (⟨Int.le_refl _, Int.le_refl _⟩) (rgOk_cons (⟨Int.le_refl _, Int.le_refl _⟩) (rgOk_nil))) (fun d hd => by simp [pN15x9_dead] at hd) (xs := [.int .i64 15, .int .i64 9]) (by rfl) w

def pN15x10_dead : List (List (SB × Bool)) := []
noncomputable def pN15x10_tree : R := fillT endT []
set_option maxRecDepth 1000000 in
theorem pN15x10_run : evCall Tryz.prog plans hubDeaf.sumsG 100000 6 [.int .i64 (.lit (.ofNat 15)), .int .i64 (.lit (.ofNat 10))] (s0 [] [[]] [((.ofNat 15), (.ofNat 15)), ((.ofNat 10), (.ofNat 10))]) finK = pN15x10_tree := by kernel_rfl
set_option maxRecDepth 1000000 in
theorem pN15x10_ok : okTree pN15x10_tree true [] pN15x10_dead = true := by kernel_rfl
theorem pN15x10_any (a0 : Int) (h0 : 15 ≤ a0 ∧ a0 ≤ 15) (a1 : Int) (h1 : 10 ≤ a1 ∧ a1 ≤ 10) (w : World) : Calls Tryz.prog 6 #[.int .i64 a0, .int .i64 a1] w fun e w' => e = .returned (.bool true) ∧ Kp [] w w' := by
  obtain rfl : a0 = 15 := by omega
  obtain rfl : a1 = 10 := by omega
  exact run_bool (ds := pN15x10_dead) follows_mixed plans_ok hubDeaf.sumsG_ok (pN15x10_run) pN15x10_ok (fun i => if i = 0 then 15 else if i = 1 then 10 else 0) (fun x hx => by cases hx) (rgOk_cons (⟨Int.le_refl _, Int.le_refl _⟩) (rgOk_cons (⟨Int.le_refl _, Int.le_refl _⟩) (rgOk_nil))) (fun d hd => by simp [pN15x10_dead] at hd) (xs := [.int .i64 15, .int .i64 10]) (by rfl) w

def pN15x11_dead : List (List (SB × Bool)) := []
noncomputable def pN15x11_tree : R := fillT endT []
set_option maxRecDepth 1000000 in
theorem pN15x11_run : evCall Tryz.prog plans hubDeaf.sumsG 100000 6 [.int .i64 (.lit (.ofNat 15)), .int .i64 (.lit (.ofNat 11))] (s0 [] [[]] [((.ofNat 15), (.ofNat 15)), ((.ofNat 11), (.ofNat 11))]) finK = pN15x11_tree := by kernel_rfl
set_option maxRecDepth 1000000 in
theorem pN15x11_ok : okTree pN15x11_tree true [] pN15x11_dead = true := by kernel_rfl
theorem pN15x11_any (a0 : Int) (h0 : 15 ≤ a0 ∧ a0 ≤ 15) (a1 : Int) (h1 : 11 ≤ a1 ∧ a1 ≤ 11) (w : World) : Calls Tryz.prog 6 #[.int .i64 a0, .int .i64 a1] w fun e w' => e = .returned (.bool true) ∧ Kp [] w w' := by
  obtain rfl : a0 = 15 := by omega
  obtain rfl : a1 = 11 := by omega
  exact run_bool (ds := pN15x11_dead) follows_mixed plans_ok hubDeaf.sumsG_ok (pN15x11_run) pN15x11_ok (fun i => if i = 0 then 15 else if i = 1 then 11 else 0) (fun x hx => by cases hx) (rgOk_cons (⟨Int.le_refl _, Int.le_refl _⟩) (rgOk_cons (⟨Int.le_refl _, Int.le_refl _⟩) (rgOk_nil))) (fun d hd => by simp [pN15x11_dead] at hd) (xs := [.int .i64 15, .int .i64 11]) (by rfl) w

def pN15x12_dead : List (List (SB × Bool)) := []
noncomputable def pN15x12_tree : R := fillT endT []
set_option maxRecDepth 1000000 in
theorem pN15x12_run : evCall Tryz.prog plans hubDeaf.sumsG 100000 6 [.int .i64 (.lit (.ofNat 15)), .int .i64 (.lit (.ofNat 12))] (s0 [] [[]] [((.ofNat 15), (.ofNat 15)), ((.ofNat 12), (.ofNat 12))]) finK = pN15x12_tree := by kernel_rfl
set_option maxRecDepth 1000000 in
theorem pN15x12_ok : okTree pN15x12_tree true [] pN15x12_dead = true := by kernel_rfl
theorem pN15x12_any (a0 : Int) (h0 : 15 ≤ a0 ∧ a0 ≤ 15) (a1 : Int) (h1 : 12 ≤ a1 ∧ a1 ≤ 12) (w : World) : Calls Tryz.prog 6 #[.int .i64 a0, .int .i64 a1] w fun e w' => e = .returned (.bool true) ∧ Kp [] w w' := by
  obtain rfl : a0 = 15 := by omega
  obtain rfl : a1 = 12 := by omega
  exact run_bool (ds := pN15x12_dead) follows_mixed plans_ok hubDeaf.sumsG_ok (pN15x12_run) pN15x12_ok (fun i => if i = 0 then 15 else if i = 1 then 12 else 0) (fun x hx => by cases hx) (rgOk_cons (⟨Int.le_refl _, Int.le_refl _⟩) (rgOk_cons (⟨Int.le_refl _, Int.le_refl _⟩) (rgOk_nil))) (fun d hd => by simp [pN15x12_dead] at hd) (xs := [.int .i64 15, .int .i64 12]) (by rfl) w

def pN15x13_dead : List (List (SB × Bool)) := []
noncomputable def pN15x13_tree : R := fillT endT []
set_option maxRecDepth 1000000 in
theorem pN15x13_run : evCall Tryz.prog plans hubDeaf.sumsG 100000 6 [.int .i64 (.lit (.ofNat 15)), .int .i64 (.lit (.ofNat 13))] (s0 [] [[]] [((.ofNat 15), (.ofNat 15)), ((.ofNat 13), (.ofNat 13))]) finK = pN15x13_tree := by kernel_rfl
set_option maxRecDepth 1000000 in
theorem pN15x13_ok : okTree pN15x13_tree true [] pN15x13_dead = true := by kernel_rfl
theorem pN15x13_any (a0 : Int) (h0 : 15 ≤ a0 ∧ a0 ≤ 15) (a1 : Int) (h1 : 13 ≤ a1 ∧ a1 ≤ 13) (w : World) : Calls Tryz.prog 6 #[.int .i64 a0, .int .i64 a1] w fun e w' => e = .returned (.bool true) ∧ Kp [] w w' := by
  obtain rfl : a0 = 15 := by omega
  obtain rfl : a1 = 13 := by omega
  exact run_bool (ds := pN15x13_dead) follows_mixed plans_ok hubDeaf.sumsG_ok (pN15x13_run) pN15x13_ok (fun i => if i = 0 then 15 else if i = 1 then 13 else 0) (fun x hx => by cases hx) (rgOk_cons (⟨Int.le_refl _, Int.le_refl _⟩) (rgOk_cons (⟨Int.le_refl _, Int.le_refl _⟩) (rgOk_nil))) (fun d hd => by simp [pN15x13_dead] at hd) (xs := [.int .i64 15, .int .i64 13]) (by rfl) w

def pN15x14_dead : List (List (SB × Bool)) := []
noncomputable def pN15x14_tree : R := fillT endT []
set_option maxRecDepth 1000000 in
theorem pN15x14_run : evCall Tryz.prog plans hubDeaf.sumsG 100000 6 [.int .i64 (.lit (.ofNat 15)), .int .i64 (.lit (.ofNat 14))] (s0 [] [[]] [((.ofNat 15), (.ofNat 15)), ((.ofNat 14), (.ofNat 14))]) finK = pN15x14_tree := by kernel_rfl
set_option maxRecDepth 1000000 in
theorem pN15x14_ok : okTree pN15x14_tree true [] pN15x14_dead = true := by kernel_rfl
theorem pN15x14_any (a0 : Int) (h0 : 15 ≤ a0 ∧ a0 ≤ 15) (a1 : Int) (h1 : 14 ≤ a1 ∧ a1 ≤ 14) (w : World) : Calls Tryz.prog 6 #[.int .i64 a0, .int .i64 a1] w fun e w' => e = .returned (.bool true) ∧ Kp [] w w' := by
  obtain rfl : a0 = 15 := by omega
  obtain rfl : a1 = 14 := by omega
  exact run_bool (ds := pN15x14_dead) follows_mixed plans_ok hubDeaf.sumsG_ok (pN15x14_run) pN15x14_ok (fun i => if i = 0 then 15 else if i = 1 then 14 else 0) (fun x hx => by cases hx) (rgOk_cons (⟨Int.le_refl _, Int.le_refl _⟩) (rgOk_cons (⟨Int.le_refl _, Int.le_refl _⟩) (rgOk_nil))) (fun d hd => by simp [pN15x14_dead] at hd) (xs := [.int .i64 15, .int .i64 14]) (by rfl) w

def pN15x15_dead : List (List (SB × Bool)) := []
noncomputable def pN15x15_tree : R := fillT endT []
set_option maxRecDepth 1000000 in
theorem pN15x15_run : evCall Tryz.prog plans hubDeaf.sumsG 100000 6 [.int .i64 (.lit (.ofNat 15)), .int .i64 (.lit (.ofNat 15))] (s0 [] [[]] [((.ofNat 15), (.ofNat 15)), ((.ofNat 15), (.ofNat 15))]) finK = pN15x15_tree := by kernel_rfl
set_option maxRecDepth 1000000 in
theorem pN15x15_ok : okTree pN15x15_tree true [] pN15x15_dead = true := by kernel_rfl
theorem pN15x15_any (a0 : Int) (h0 : 15 ≤ a0 ∧ a0 ≤ 15) (a1 : Int) (h1 : 15 ≤ a1 ∧ a1 ≤ 15) (w : World) : Calls Tryz.prog 6 #[.int .i64 a0, .int .i64 a1] w fun e w' => e = .returned (.bool true) ∧ Kp [] w w' := by
  obtain rfl : a0 = 15 := by omega
  obtain rfl : a1 = 15 := by omega
  exact run_bool (ds := pN15x15_dead) follows_mixed plans_ok hubDeaf.sumsG_ok (pN15x15_run) pN15x15_ok (fun i => if i = 0 then 15 else if i = 1 then 15 else 0) (fun x hx => by cases hx) (rgOk_cons (⟨Int.le_refl _, Int.le_refl _⟩) (rgOk_cons (⟨Int.le_refl _, Int.le_refl _⟩) (rgOk_nil))) (fun d hd => by simp [pN15x15_dead] at hd) (xs := [.int .i64 15, .int .i64 15]) (by rfl) w

def pN16x0_dead : List (List (SB × Bool)) := []
noncomputable def pN16x0_tree : R := fillT endT []
set_option maxRecDepth 1000000 in
theorem pN16x0_run : evCall Tryz.prog plans hubDeaf.sumsG 100000 6 [.int .i64 (.lit (.ofNat 16)), .int .i64 (.lit (.ofNat 0))] (s0 [] [[]] [((.ofNat 16), (.ofNat 16)), ((.ofNat 0), (.ofNat 0))]) finK = pN16x0_tree := by kernel_rfl
set_option maxRecDepth 1000000 in
theorem pN16x0_ok : okTree pN16x0_tree true [] pN16x0_dead = true := by kernel_rfl
theorem pN16x0_any (a0 : Int) (h0 : 16 ≤ a0 ∧ a0 ≤ 16) (a1 : Int) (h1 : 0 ≤ a1 ∧ a1 ≤ 0) (w : World) : Calls Tryz.prog 6 #[.int .i64 a0, .int .i64 a1] w fun e w' => e = .returned (.bool true) ∧ Kp [] w w' := by
  obtain rfl : a0 = 16 := by omega
  obtain rfl : a1 = 0 := by omega
  exact run_bool (ds := pN16x0_dead) follows_mixed plans_ok hubDeaf.sumsG_ok (pN16x0_run) pN16x0_ok (fun i => if i = 0 then 16 else if i = 1 then 0 else 0) (fun x hx => by cases hx) (rgOk_cons (⟨Int.le_refl _, Int.le_refl _⟩) (rgOk_cons (⟨Int.le_refl _, Int.le_refl _⟩) (rgOk_nil))) (fun d hd => by simp [pN16x0_dead] at hd) (xs := [.int .i64 16, .int .i64 0]) (by rfl) w

def pN16x1_dead : List (List (SB × Bool)) := []
noncomputable def pN16x1_tree : R := fillT endT []
set_option maxRecDepth 1000000 in
theorem pN16x1_run : evCall Tryz.prog plans hubDeaf.sumsG 100000 6 [.int .i64 (.lit (.ofNat 16)), .int .i64 (.lit (.ofNat 1))] (s0 [] [[]] [((.ofNat 16), (.ofNat 16)), ((.ofNat 1), (.ofNat 1))]) finK = pN16x1_tree := by kernel_rfl
set_option maxRecDepth 1000000 in
theorem pN16x1_ok : okTree pN16x1_tree true [] pN16x1_dead = true := by kernel_rfl
theorem pN16x1_any (a0 : Int) (h0 : 16 ≤ a0 ∧ a0 ≤ 16) (a1 : Int) (h1 : 1 ≤ a1 ∧ a1 ≤ 1) (w : World) : Calls Tryz.prog 6 #[.int .i64 a0, .int .i64 a1] w fun e w' => e = .returned (.bool true) ∧ Kp [] w w' := by
  obtain rfl : a0 = 16 := by omega
  obtain rfl : a1 = 1 := by omega
  exact run_bool (ds := pN16x1_dead) follows_mixed plans_ok hubDeaf.sumsG_ok (pN16x1_run) pN16x1_ok (fun i => if i = 0 then 16 else if i = 1 then 1 else 0) (fun x hx => by cases hx) (rgOk_cons (⟨Int.le_refl _, Int.le_refl _⟩) (rgOk_cons (⟨Int.le_refl _, Int.le_refl _⟩) (rgOk_nil))) (fun d hd => by simp [pN16x1_dead] at hd) (xs := [.int .i64 16, .int .i64 1]) (by rfl) w

def pN16x2_dead : List (List (SB × Bool)) := []
noncomputable def pN16x2_tree : R := fillT endT []
set_option maxRecDepth 1000000 in
theorem pN16x2_run : evCall Tryz.prog plans hubDeaf.sumsG 100000 6 [.int .i64 (.lit (.ofNat 16)), .int .i64 (.lit (.ofNat 2))] (s0 [] [[]] [((.ofNat 16), (.ofNat 16)), ((.ofNat 2), (.ofNat 2))]) finK = pN16x2_tree := by kernel_rfl
set_option maxRecDepth 1000000 in
theorem pN16x2_ok : okTree pN16x2_tree true [] pN16x2_dead = true := by kernel_rfl
theorem pN16x2_any (a0 : Int) (h0 : 16 ≤ a0 ∧ a0 ≤ 16) (a1 : Int) (h1 : 2 ≤ a1 ∧ a1 ≤ 2) (w : World) : Calls Tryz.prog 6 #[.int .i64 a0, .int .i64 a1] w fun e w' => e = .returned (.bool true) ∧ Kp [] w w' := by
  obtain rfl : a0 = 16 := by omega
  obtain rfl : a1 = 2 := by omega
  exact run_bool (ds := pN16x2_dead) follows_mixed plans_ok hubDeaf.sumsG_ok (pN16x2_run) pN16x2_ok (fun i => if i = 0 then 16 else if i = 1 then 2 else 0) (fun x hx => by cases hx) (rgOk_cons (⟨Int.le_refl _, Int.le_refl _⟩) (rgOk_cons (⟨Int.le_refl _, Int.le_refl _⟩) (rgOk_nil))) (fun d hd => by simp [pN16x2_dead] at hd) (xs := [.int .i64 16, .int .i64 2]) (by rfl) w

def pN16x3_dead : List (List (SB × Bool)) := []
noncomputable def pN16x3_tree : R := fillT endT []
set_option maxRecDepth 1000000 in
theorem pN16x3_run : evCall Tryz.prog plans hubDeaf.sumsG 100000 6 [.int .i64 (.lit (.ofNat 16)), .int .i64 (.lit (.ofNat 3))] (s0 [] [[]] [((.ofNat 16), (.ofNat 16)), ((.ofNat 3), (.ofNat 3))]) finK = pN16x3_tree := by kernel_rfl
set_option maxRecDepth 1000000 in
theorem pN16x3_ok : okTree pN16x3_tree true [] pN16x3_dead = true := by kernel_rfl
theorem pN16x3_any (a0 : Int) (h0 : 16 ≤ a0 ∧ a0 ≤ 16) (a1 : Int) (h1 : 3 ≤ a1 ∧ a1 ≤ 3) (w : World) : Calls Tryz.prog 6 #[.int .i64 a0, .int .i64 a1] w fun e w' => e = .returned (.bool true) ∧ Kp [] w w' := by
  obtain rfl : a0 = 16 := by omega
  obtain rfl : a1 = 3 := by omega
  exact run_bool (ds := pN16x3_dead) follows_mixed plans_ok hubDeaf.sumsG_ok (pN16x3_run) pN16x3_ok (fun i => if i = 0 then 16 else if i = 1 then 3 else 0) (fun x hx => by cases hx) (rgOk_cons (⟨Int.le_refl _, Int.le_refl _⟩) (rgOk_cons (⟨Int.le_refl _, Int.le_refl _⟩) (rgOk_nil))) (fun d hd => by simp [pN16x3_dead] at hd) (xs := [.int .i64 16, .int .i64 3]) (by rfl) w

def pN16x4_dead : List (List (SB × Bool)) := []
noncomputable def pN16x4_tree : R := fillT endT []
set_option maxRecDepth 1000000 in
theorem pN16x4_run : evCall Tryz.prog plans hubDeaf.sumsG 100000 6 [.int .i64 (.lit (.ofNat 16)), .int .i64 (.lit (.ofNat 4))] (s0 [] [[]] [((.ofNat 16), (.ofNat 16)), ((.ofNat 4), (.ofNat 4))]) finK = pN16x4_tree := by kernel_rfl
set_option maxRecDepth 1000000 in
theorem pN16x4_ok : okTree pN16x4_tree true [] pN16x4_dead = true := by kernel_rfl
theorem pN16x4_any (a0 : Int) (h0 : 16 ≤ a0 ∧ a0 ≤ 16) (a1 : Int) (h1 : 4 ≤ a1 ∧ a1 ≤ 4) (w : World) : Calls Tryz.prog 6 #[.int .i64 a0, .int .i64 a1] w fun e w' => e = .returned (.bool true) ∧ Kp [] w w' := by
  obtain rfl : a0 = 16 := by omega
  obtain rfl : a1 = 4 := by omega
  exact run_bool (ds := pN16x4_dead) follows_mixed plans_ok hubDeaf.sumsG_ok (pN16x4_run) pN16x4_ok (fun i => if i = 0 then 16 else if i = 1 then 4 else 0) (fun x hx => by cases hx) (rgOk_cons (⟨Int.le_refl _, Int.le_refl _⟩) (rgOk_cons (⟨Int.le_refl _, Int.le_refl _⟩) (rgOk_nil))) (fun d hd => by simp [pN16x4_dead] at hd) (xs := [.int .i64 16, .int .i64 4]) (by rfl) w

def pN16x5_dead : List (List (SB × Bool)) := []
noncomputable def pN16x5_tree : R := fillT endT []
set_option maxRecDepth 1000000 in
theorem pN16x5_run : evCall Tryz.prog plans hubDeaf.sumsG 100000 6 [.int .i64 (.lit (.ofNat 16)), .int .i64 (.lit (.ofNat 5))] (s0 [] [[]] [((.ofNat 16), (.ofNat 16)), ((.ofNat 5), (.ofNat 5))]) finK = pN16x5_tree := by kernel_rfl
set_option maxRecDepth 1000000 in
theorem pN16x5_ok : okTree pN16x5_tree true [] pN16x5_dead = true := by kernel_rfl
theorem pN16x5_any (a0 : Int) (h0 : 16 ≤ a0 ∧ a0 ≤ 16) (a1 : Int) (h1 : 5 ≤ a1 ∧ a1 ≤ 5) (w : World) : Calls Tryz.prog 6 #[.int .i64 a0, .int .i64 a1] w fun e w' => e = .returned (.bool true) ∧ Kp [] w w' := by
  obtain rfl : a0 = 16 := by omega
  obtain rfl : a1 = 5 := by omega
  exact run_bool (ds := pN16x5_dead) follows_mixed plans_ok hubDeaf.sumsG_ok (pN16x5_run) pN16x5_ok (fun i => if i = 0 then 16 else if i = 1 then 5 else 0) (fun x hx => by cases hx) (rgOk_cons (⟨Int.le_refl _, Int.le_refl _⟩) (rgOk_cons (⟨Int.le_refl _, Int.le_refl _⟩) (rgOk_nil))) (fun d hd => by simp [pN16x5_dead] at hd) (xs := [.int .i64 16, .int .i64 5]) (by rfl) w

def pN16x6_dead : List (List (SB × Bool)) := []
noncomputable def pN16x6_tree : R := fillT endT []
set_option maxRecDepth 1000000 in
theorem pN16x6_run : evCall Tryz.prog plans hubDeaf.sumsG 100000 6 [.int .i64 (.lit (.ofNat 16)), .int .i64 (.lit (.ofNat 6))] (s0 [] [[]] [((.ofNat 16), (.ofNat 16)), ((.ofNat 6), (.ofNat 6))]) finK = pN16x6_tree := by kernel_rfl
set_option maxRecDepth 1000000 in
theorem pN16x6_ok : okTree pN16x6_tree true [] pN16x6_dead = true := by kernel_rfl
theorem pN16x6_any (a0 : Int) (h0 : 16 ≤ a0 ∧ a0 ≤ 16) (a1 : Int) (h1 : 6 ≤ a1 ∧ a1 ≤ 6) (w : World) : Calls Tryz.prog 6 #[.int .i64 a0, .int .i64 a1] w fun e w' => e = .returned (.bool true) ∧ Kp [] w w' := by
  obtain rfl : a0 = 16 := by omega
  obtain rfl : a1 = 6 := by omega
  exact run_bool (ds := pN16x6_dead) follows_mixed plans_ok hubDeaf.sumsG_ok (pN16x6_run) pN16x6_ok (fun i => if i = 0 then 16 else if i = 1 then 6 else 0) (fun x hx => by cases hx) (rgOk_cons (⟨Int.le_refl _, Int.le_refl _⟩) (rgOk_cons (⟨Int.le_refl _, Int.le_refl _⟩) (rgOk_nil))) (fun d hd => by simp [pN16x6_dead] at hd) (xs := [.int .i64 16, .int .i64 6]) (by rfl) w

def pN16x7_dead : List (List (SB × Bool)) := []
noncomputable def pN16x7_tree : R := fillT endT []
set_option maxRecDepth 1000000 in
theorem pN16x7_run : evCall Tryz.prog plans hubDeaf.sumsG 100000 6 [.int .i64 (.lit (.ofNat 16)), .int .i64 (.lit (.ofNat 7))] (s0 [] [[]] [((.ofNat 16), (.ofNat 16)), ((.ofNat 7), (.ofNat 7))]) finK = pN16x7_tree := by kernel_rfl
set_option maxRecDepth 1000000 in
theorem pN16x7_ok : okTree pN16x7_tree true [] pN16x7_dead = true := by kernel_rfl
theorem pN16x7_any (a0 : Int) (h0 : 16 ≤ a0 ∧ a0 ≤ 16) (a1 : Int) (h1 : 7 ≤ a1 ∧ a1 ≤ 7) (w : World) : Calls Tryz.prog 6 #[.int .i64 a0, .int .i64 a1] w fun e w' => e = .returned (.bool true) ∧ Kp [] w w' := by
  obtain rfl : a0 = 16 := by omega
  obtain rfl : a1 = 7 := by omega
  exact run_bool (ds := pN16x7_dead) follows_mixed plans_ok hubDeaf.sumsG_ok (pN16x7_run) pN16x7_ok (fun i => if i = 0 then 16 else if i = 1 then 7 else 0) (fun x hx => by cases hx) (rgOk_cons (⟨Int.le_refl _, Int.le_refl _⟩) (rgOk_cons (⟨Int.le_refl _, Int.le_refl _⟩) (rgOk_nil))) (fun d hd => by simp [pN16x7_dead] at hd) (xs := [.int .i64 16, .int .i64 7]) (by rfl) w

def pN16x8_dead : List (List (SB × Bool)) := []
noncomputable def pN16x8_tree : R := fillT endT []
set_option maxRecDepth 1000000 in
theorem pN16x8_run : evCall Tryz.prog plans hubDeaf.sumsG 100000 6 [.int .i64 (.lit (.ofNat 16)), .int .i64 (.lit (.ofNat 8))] (s0 [] [[]] [((.ofNat 16), (.ofNat 16)), ((.ofNat 8), (.ofNat 8))]) finK = pN16x8_tree := by kernel_rfl
set_option maxRecDepth 1000000 in
theorem pN16x8_ok : okTree pN16x8_tree true [] pN16x8_dead = true := by kernel_rfl
theorem pN16x8_any (a0 : Int) (h0 : 16 ≤ a0 ∧ a0 ≤ 16) (a1 : Int) (h1 : 8 ≤ a1 ∧ a1 ≤ 8) (w : World) : Calls Tryz.prog 6 #[.int .i64 a0, .int .i64 a1] w fun e w' => e = .returned (.bool true) ∧ Kp [] w w' := by
  obtain rfl : a0 = 16 := by omega
  obtain rfl : a1 = 8 := by omega
  exact run_bool (ds := pN16x8_dead) follows_mixed plans_ok hubDeaf.sumsG_ok (pN16x8_run) pN16x8_ok (fun i => if i = 0 then 16 else if i = 1 then 8 else 0) (fun x hx => by cases hx) (rgOk_cons (⟨Int.le_refl _, Int.le_refl _⟩) (rgOk_cons (⟨Int.le_refl _, Int.le_refl _⟩) (rgOk_nil))) (fun d hd => by simp [pN16x8_dead] at hd) (xs := [.int .i64 16, .int .i64 8]) (by rfl) w

def pN16x9_dead : List (List (SB × Bool)) := []
noncomputable def pN16x9_tree : R := fillT endT []
set_option maxRecDepth 1000000 in
theorem pN16x9_run : evCall Tryz.prog plans hubDeaf.sumsG 100000 6 [.int .i64 (.lit (.ofNat 16)), .int .i64 (.lit (.ofNat 9))] (s0 [] [[]] [((.ofNat 16), (.ofNat 16)), ((.ofNat 9), (.ofNat 9))]) finK = pN16x9_tree := by kernel_rfl
set_option maxRecDepth 1000000 in
theorem pN16x9_ok : okTree pN16x9_tree true [] pN16x9_dead = true := by kernel_rfl
theorem pN16x9_any (a0 : Int) (h0 : 16 ≤ a0 ∧ a0 ≤ 16) (a1 : Int) (h1 : 9 ≤ a1 ∧ a1 ≤ 9) (w : World) : Calls Tryz.prog 6 #[.int .i64 a0, .int .i64 a1] w fun e w' => e = .returned (.bool true) ∧ Kp [] w w' := by
  obtain rfl : a0 = 16 := by omega
  obtain rfl : a1 = 9 := by omega
  exact run_bool (ds := pN16x9_dead) follows_mixed plans_ok hubDeaf.sumsG_ok (pN16x9_run) pN16x9_ok (fun i => if i = 0 then 16 else if i = 1 then 9 else 0) (fun x hx => by cases hx) (rgOk_cons (⟨Int.le_refl _, Int.le_refl _⟩) (rgOk_cons (⟨Int.le_refl _, Int.le_refl _⟩) (rgOk_nil))) (fun d hd => by simp [pN16x9_dead] at hd) (xs := [.int .i64 16, .int .i64 9]) (by rfl) w

def pN16x10_dead : List (List (SB × Bool)) := []
noncomputable def pN16x10_tree : R := fillT endT []
set_option maxRecDepth 1000000 in
theorem pN16x10_run : evCall Tryz.prog plans hubDeaf.sumsG 100000 6 [.int .i64 (.lit (.ofNat 16)), .int .i64 (.lit (.ofNat 10))] (s0 [] [[]] [((.ofNat 16), (.ofNat 16)), ((.ofNat 10), (.ofNat 10))]) finK = pN16x10_tree := by kernel_rfl
set_option maxRecDepth 1000000 in
theorem pN16x10_ok : okTree pN16x10_tree true [] pN16x10_dead = true := by kernel_rfl
theorem pN16x10_any (a0 : Int) (h0 : 16 ≤ a0 ∧ a0 ≤ 16) (a1 : Int) (h1 : 10 ≤ a1 ∧ a1 ≤ 10) (w : World) : Calls Tryz.prog 6 #[.int .i64 a0, .int .i64 a1] w fun e w' => e = .returned (.bool true) ∧ Kp [] w w' := by
  obtain rfl : a0 = 16 := by omega
  obtain rfl : a1 = 10 := by omega
  exact run_bool (ds := pN16x10_dead) follows_mixed plans_ok hubDeaf.sumsG_ok (pN16x10_run) pN16x10_ok (fun i => if i = 0 then 16 else if i = 1 then 10 else 0) (fun x hx => by cases hx) (rgOk_cons (⟨Int.le_refl _, Int.le_refl _⟩) (rgOk_cons (⟨Int.le_refl _, Int.le_refl _⟩) (rgOk_nil))) (fun d hd => by simp [pN16x10_dead] at hd) (xs := [.int .i64 16, .int .i64 10]) (by rfl) w

def pN16x11_dead : List (List (SB × Bool)) := []
noncomputable def pN16x11_tree : R := fillT endT []
set_option maxRecDepth 1000000 in
theorem pN16x11_run : evCall Tryz.prog plans hubDeaf.sumsG 100000 6 [.int .i64 (.lit (.ofNat 16)), .int .i64 (.lit (.ofNat 11))] (s0 [] [[]] [((.ofNat 16), (.ofNat 16)), ((.ofNat 11), (.ofNat 11))]) finK = pN16x11_tree := by kernel_rfl
set_option maxRecDepth 1000000 in
theorem pN16x11_ok : okTree pN16x11_tree true [] pN16x11_dead = true := by kernel_rfl
theorem pN16x11_any (a0 : Int) (h0 : 16 ≤ a0 ∧ a0 ≤ 16) (a1 : Int) (h1 : 11 ≤ a1 ∧ a1 ≤ 11) (w : World) : Calls Tryz.prog 6 #[.int .i64 a0, .int .i64 a1] w fun e w' => e = .returned (.bool true) ∧ Kp [] w w' := by
  obtain rfl : a0 = 16 := by omega
  obtain rfl : a1 = 11 := by omega
  exact run_bool (ds := pN16x11_dead) follows_mixed plans_ok hubDeaf.sumsG_ok (pN16x11_run) pN16x11_ok (fun i => if i = 0 then 16 else if i = 1 then 11 else 0) (fun x hx => by cases hx) (rgOk_cons (⟨Int.le_refl _, Int.le_refl _⟩) (rgOk_cons (⟨Int.le_refl _, Int.le_refl _⟩) (rgOk_nil))) (fun d hd => by simp [pN16x11_dead] at hd) (xs := [.int .i64 16, .int .i64 11]) (by rfl) w

def pN16x12_dead : List (List (SB × Bool)) := []
noncomputable def pN16x12_tree : R := fillT endT []
set_option maxRecDepth 1000000 in
theorem pN16x12_run : evCall Tryz.prog plans hubDeaf.sumsG 100000 6 [.int .i64 (.lit (.ofNat 16)), .int .i64 (.lit (.ofNat 12))] (s0 [] [[]] [((.ofNat 16), (.ofNat 16)), ((.ofNat 12), (.ofNat 12))]) finK = pN16x12_tree := by kernel_rfl
set_option maxRecDepth 1000000 in
theorem pN16x12_ok : okTree pN16x12_tree true [] pN16x12_dead = true := by kernel_rfl
theorem pN16x12_any (a0 : Int) (h0 : 16 ≤ a0 ∧ a0 ≤ 16) (a1 : Int) (h1 : 12 ≤ a1 ∧ a1 ≤ 12) (w : World) : Calls Tryz.prog 6 #[.int .i64 a0, .int .i64 a1] w fun e w' => e = .returned (.bool true) ∧ Kp [] w w' := by
  obtain rfl : a0 = 16 := by omega
  obtain rfl : a1 = 12 := by omega
  exact run_bool (ds := pN16x12_dead) follows_mixed plans_ok hubDeaf.sumsG_ok (pN16x12_run) pN16x12_ok (fun i => if i = 0 then 16 else if i = 1 then 12 else 0) (fun x hx => by cases hx) (rgOk_cons (⟨Int.le_refl _, Int.le_refl _⟩) (rgOk_cons (⟨Int.le_refl _, Int.le_refl _⟩) (rgOk_nil))) (fun d hd => by simp [pN16x12_dead] at hd) (xs := [.int .i64 16, .int .i64 12]) (by rfl) w

def pN16x13_dead : List (List (SB × Bool)) := []
noncomputable def pN16x13_tree : R := fillT endT []
set_option maxRecDepth 1000000 in
theorem pN16x13_run : evCall Tryz.prog plans hubDeaf.sumsG 100000 6 [.int .i64 (.lit (.ofNat 16)), .int .i64 (.lit (.ofNat 13))] (s0 [] [[]] [((.ofNat 16), (.ofNat 16)), ((.ofNat 13), (.ofNat 13))]) finK = pN16x13_tree := by kernel_rfl
set_option maxRecDepth 1000000 in
theorem pN16x13_ok : okTree pN16x13_tree true [] pN16x13_dead = true := by kernel_rfl
theorem pN16x13_any (a0 : Int) (h0 : 16 ≤ a0 ∧ a0 ≤ 16) (a1 : Int) (h1 : 13 ≤ a1 ∧ a1 ≤ 13) (w : World) : Calls Tryz.prog 6 #[.int .i64 a0, .int .i64 a1] w fun e w' => e = .returned (.bool true) ∧ Kp [] w w' := by
  obtain rfl : a0 = 16 := by omega
  obtain rfl : a1 = 13 := by omega
  exact run_bool (ds := pN16x13_dead) follows_mixed plans_ok hubDeaf.sumsG_ok (pN16x13_run) pN16x13_ok (fun i => if i = 0 then 16 else if i = 1 then 13 else 0) (fun x hx => by cases hx) (rgOk_cons (⟨Int.le_refl _, Int.le_refl _⟩) (rgOk_cons (⟨Int.le_refl _, Int.le_refl _⟩) (rgOk_nil))) (fun d hd => by simp [pN16x13_dead] at hd) (xs := [.int .i64 16, .int .i64 13]) (by rfl) w

def pN16x14_dead : List (List (SB × Bool)) := []
noncomputable def pN16x14_tree : R := fillT endT []
set_option maxRecDepth 1000000 in
theorem pN16x14_run : evCall Tryz.prog plans hubDeaf.sumsG 100000 6 [.int .i64 (.lit (.ofNat 16)), .int .i64 (.lit (.ofNat 14))] (s0 [] [[]] [((.ofNat 16), (.ofNat 16)), ((.ofNat 14), (.ofNat 14))]) finK = pN16x14_tree := by kernel_rfl
set_option maxRecDepth 1000000 in
theorem pN16x14_ok : okTree pN16x14_tree true [] pN16x14_dead = true := by kernel_rfl
theorem pN16x14_any (a0 : Int) (h0 : 16 ≤ a0 ∧ a0 ≤ 16) (a1 : Int) (h1 : 14 ≤ a1 ∧ a1 ≤ 14) (w : World) : Calls Tryz.prog 6 #[.int .i64 a0, .int .i64 a1] w fun e w' => e = .returned (.bool true) ∧ Kp [] w w' := by
  obtain rfl : a0 = 16 := by omega
  obtain rfl : a1 = 14 := by omega
  exact run_bool (ds := pN16x14_dead) follows_mixed plans_ok hubDeaf.sumsG_ok (pN16x14_run) pN16x14_ok (fun i => if i = 0 then 16 else if i = 1 then 14 else 0) (fun x hx => by cases hx) (rgOk_cons (⟨Int.le_refl _, Int.le_refl _⟩) (rgOk_cons (⟨Int.le_refl _, Int.le_refl _⟩) (rgOk_nil))) (fun d hd => by simp [pN16x14_dead] at hd) (xs := [.int .i64 16, .int .i64 14]) (by rfl) w

def pN16x15_dead : List (List (SB × Bool)) := []
noncomputable def pN16x15_tree : R := fillT endT []
set_option maxRecDepth 1000000 in
theorem pN16x15_run : evCall Tryz.prog plans hubDeaf.sumsG 100000 6 [.int .i64 (.lit (.ofNat 16)), .int .i64 (.lit (.ofNat 15))] (s0 [] [[]] [((.ofNat 16), (.ofNat 16)), ((.ofNat 15), (.ofNat 15))]) finK = pN16x15_tree := by kernel_rfl
set_option maxRecDepth 1000000 in
theorem pN16x15_ok : okTree pN16x15_tree true [] pN16x15_dead = true := by kernel_rfl
theorem pN16x15_any (a0 : Int) (h0 : 16 ≤ a0 ∧ a0 ≤ 16) (a1 : Int) (h1 : 15 ≤ a1 ∧ a1 ≤ 15) (w : World) : Calls Tryz.prog 6 #[.int .i64 a0, .int .i64 a1] w fun e w' => e = .returned (.bool true) ∧ Kp [] w w' := by
  obtain rfl : a0 = 16 := by omega
  obtain rfl : a1 = 15 := by omega
  exact run_bool (ds := pN16x15_dead) follows_mixed plans_ok hubDeaf.sumsG_ok (pN16x15_run) pN16x15_ok (fun i => if i = 0 then 16 else if i = 1 then 15 else 0) (fun x hx => by cases hx) (rgOk_cons (⟨Int.le_refl _, Int.le_refl _⟩) (rgOk_cons (⟨Int.le_refl _, Int.le_refl _⟩) (rgOk_nil))) (fun d hd => by simp [pN16x15_dead] at hd) (xs := [.int .i64 16, .int .i64 15]) (by rfl) w

def pN16x16_dead : List (List (SB × Bool)) := []
noncomputable def pN16x16_tree : R := fillT endT []
set_option maxRecDepth 1000000 in
theorem pN16x16_run : evCall Tryz.prog plans hubDeaf.sumsG 100000 6 [.int .i64 (.lit (.ofNat 16)), .int .i64 (.lit (.ofNat 16))] (s0 [] [[]] [((.ofNat 16), (.ofNat 16)), ((.ofNat 16), (.ofNat 16))]) finK = pN16x16_tree := by kernel_rfl
set_option maxRecDepth 1000000 in
theorem pN16x16_ok : okTree pN16x16_tree true [] pN16x16_dead = true := by kernel_rfl
theorem pN16x16_any (a0 : Int) (h0 : 16 ≤ a0 ∧ a0 ≤ 16) (a1 : Int) (h1 : 16 ≤ a1 ∧ a1 ≤ 16) (w : World) : Calls Tryz.prog 6 #[.int .i64 a0, .int .i64 a1] w fun e w' => e = .returned (.bool true) ∧ Kp [] w w' := by
  obtain rfl : a0 = 16 := by omega
  obtain rfl : a1 = 16 := by omega
  exact run_bool (ds := pN16x16_dead) follows_mixed plans_ok hubDeaf.sumsG_ok (pN16x16_run) pN16x16_ok (fun i => if i = 0 then 16 else if i = 1 then 16 else 0) (fun x hx => by cases hx) (rgOk_cons (⟨Int.le_refl _, Int.le_refl _⟩) (rgOk_cons (⟨Int.le_refl _, Int.le_refl _⟩) (rgOk_nil))) (fun d hd => by simp [pN16x16_dead] at hd) (xs := [.int .i64 16, .int .i64 16]) (by rfl) w

def pN17x0_dead : List (List (SB × Bool)) := []
noncomputable def pN17x0_tree : R := fillT endT []
set_option maxRecDepth 1000000 in
theorem pN17x0_run : evCall Tryz.prog plans hubDeaf.sumsG 100000 6 [.int .i64 (.lit (.ofNat 17)), .int .i64 (.lit (.ofNat 0))] (s0 [] [[]] [((.ofNat 17), (.ofNat 17)), ((.ofNat 0), (.ofNat 0))]) finK = pN17x0_tree := by kernel_rfl
set_option maxRecDepth 1000000 in
theorem pN17x0_ok : okTree pN17x0_tree true [] pN17x0_dead = true := by kernel_rfl
theorem pN17x0_any (a0 : Int) (h0 : 17 ≤ a0 ∧ a0 ≤ 17) (a1 : Int) (h1 : 0 ≤ a1 ∧ a1 ≤ 0) (w : World) : Calls Tryz.prog 6 #[.int .i64 a0, .int .i64 a1] w fun e w' => e = .returned (.bool true) ∧ Kp [] w w' := by
  obtain rfl : a0 = 17 := by omega
  obtain rfl : a1 = 0 := by omega
  exact run_bool (ds := pN17x0_dead) follows_mixed plans_ok hubDeaf.sumsG_ok (pN17x0_run) pN17x0_ok (fun i => if i = 0 then 17 else if i = 1 then 0 else 0) (fun x hx => by cases hx) (rgOk_cons (⟨Int.le_refl _, Int.le_refl _⟩) (rgOk_cons (⟨Int.le_refl _, Int.le_refl _⟩) (rgOk_nil))) (fun d hd => by simp [pN17x0_dead] at hd) (xs := [.int .i64 17, .int .i64 0]) (by rfl) w

def pN17x1_dead : List (List (SB × Bool)) := []
noncomputable def pN17x1_tree : R := fillT endT []
set_option maxRecDepth 1000000 in
theorem pN17x1_run : evCall Tryz.prog plans hubDeaf.sumsG 100000 6 [.int .i64 (.lit (.ofNat 17)), .int .i64 (.lit (.ofNat 1))] (s0 [] [[]] [((.ofNat 17), (.ofNat 17)), ((.ofNat 1), (.ofNat 1))]) finK = pN17x1_tree := by kernel_rfl
set_option maxRecDepth 1000000 in
theorem pN17x1_ok : okTree pN17x1_tree true [] pN17x1_dead = true := by kernel_rfl
theorem pN17x1_any (a0 : Int) (h0 : 17 ≤ a0 ∧ a0 ≤ 17) (a1 : Int) (h1 : 1 ≤ a1 ∧ a1 ≤ 1) (w : World) : Calls Tryz.prog 6 #[.int .i64 a0, .int .i64 a1] w fun e w' => e = .returned (.bool true) ∧ Kp [] w w' := by
  obtain rfl : a0 = 17 := by omega
  obtain rfl : a1 = 1 := by omega
  exact run_bool (ds := pN17x1_dead) follows_mixed plans_ok hubDeaf.sumsG_ok (pN17x1_run) pN17x1_ok (fun i => if i = 0 then 17 else if i = 1 then 1 else 0) (fun x hx => by cases hx) (rgOk_cons (⟨Int.le_refl _, Int.le_refl _⟩) (rgOk_cons (⟨Int.le_refl _, Int.le_refl _⟩) (rgOk_nil))) (fun d hd => by simp [pN17x1_dead] at hd) (xs := [.int .i64 17, .int .i64 1]) (by rfl) w

def pN17x2_dead : List (List (SB × Bool)) := []
noncomputable def pN17x2_tree : R := fillT endT []
set_option maxRecDepth 1000000 in
theorem pN17x2_run : evCall Tryz.prog plans hubDeaf.sumsG 100000 6 [.int .i64 (.lit (.ofNat 17)), .int .i64 (.lit (.ofNat 2))] (s0 [] [[]] [((.ofNat 17), (.ofNat 17)), ((.ofNat 2), (.ofNat 2))]) finK = pN17x2_tree := by kernel_rfl
set_option maxRecDepth 1000000 in
theorem pN17x2_ok : okTree pN17x2_tree true [] pN17x2_dead = true := by kernel_rfl
theorem pN17x2_any (a0 : Int) (h0 : 17 ≤ a0 ∧ a0 ≤ 17) (a1 : Int) (h1 : 2 ≤ a1 ∧ a1 ≤ 2) (w : World) : Calls Tryz.prog 6 #[.int .i64 a0, .int .i64 a1] w fun e w' => e = .returned (.bool true) ∧ Kp [] w w' := by
  obtain rfl : a0 = 17 := by omega
  obtain rfl : a1 = 2 := by omega
  exact run_bool (ds := pN17x2_dead) follows_mixed plans_ok hubDeaf.sumsG_ok (pN17x2_run) pN17x2_ok (fun i => if i = 0 then 17 else if i = 1 then 2 else 0) (fun x hx => by cases hx) (rgOk_cons (⟨Int.le_refl _, Int.le_refl _⟩) (rgOk_cons (⟨Int.le_refl _, Int.le_refl _⟩) (rgOk_nil))) (fun d hd => by simp [pN17x2_dead] at hd) (xs := [.int .i64 17, .int .i64 2]) (by rfl) w

def pN17x3_dead : List (List (SB × Bool)) := []
noncomputable def pN17x3_tree : R := fillT endT []
set_option maxRecDepth 1000000 in
theorem pN17x3_run : evCall Tryz.prog plans hubDeaf.sumsG 100000 6 [.int .i64 (.lit (.ofNat 17)), .int .i64 (.lit (.ofNat 3))] (s0 [] [[]] [((.ofNat 17), (.ofNat 17)), ((.ofNat 3), (.ofNat 3))]) finK = pN17x3_tree := by kernel_rfl
set_option maxRecDepth 1000000 in
theorem pN17x3_ok : okTree pN17x3_tree true [] pN17x3_dead = true := by kernel_rfl
theorem pN17x3_any (a0 : Int) (h0 : 17 ≤ a0 ∧ a0 ≤ 17) (a1 : Int) (h1 : 3 ≤ a1 ∧ a1 ≤ 3) (w : World) : Calls Tryz.prog 6 #[.int .i64 a0, .int .i64 a1] w fun e w' => e = .returned (.bool true) ∧ Kp [] w w' := by
  obtain rfl : a0 = 17 := by omega
  obtain rfl : a1 = 3 := by omega
  exact run_bool (ds := pN17x3_dead) follows_mixed plans_ok hubDeaf.sumsG_ok (pN17x3_run) pN17x3_ok (fun i => if i = 0 then 17 else if i = 1 then 3 else 0) (fun x hx => by cases hx) (rgOk_cons (⟨Int.le_refl _, Int.le_refl _⟩) (rgOk_cons (⟨Int.le_refl _, Int.le_refl _⟩) (rgOk_nil))) (fun d hd => by simp [pN17x3_dead] at hd) (xs := [.int .i64 17, .int .i64 3]) (by rfl) w

def pN17x4_dead : List (List (SB × Bool)) := []
noncomputable def pN17x4_tree : R := fillT endT []
set_option maxRecDepth 1000000 in
theorem pN17x4_run : evCall Tryz.prog plans hubDeaf.sumsG 100000 6 [.int .i64 (.lit (.ofNat 17)), .int .i64 (.lit (.ofNat 4))] (s0 [] [[]] [((.ofNat 17), (.ofNat 17)), ((.ofNat 4), (.ofNat 4))]) finK = pN17x4_tree := by kernel_rfl
set_option maxRecDepth 1000000 in
theorem pN17x4_ok : okTree pN17x4_tree true [] pN17x4_dead = true := by kernel_rfl
theorem pN17x4_any (a0 : Int) (h0 : 17 ≤ a0 ∧ a0 ≤ 17) (a1 : Int) (h1 : 4 ≤ a1 ∧ a1 ≤ 4) (w : World) : Calls Tryz.prog 6 #[.int .i64 a0, .int .i64 a1] w fun e w' => e = .returned (.bool true) ∧ Kp [] w w' := by
  obtain rfl : a0 = 17 := by omega
  obtain rfl : a1 = 4 := by omega
  exact run_bool (ds := pN17x4_dead) follows_mixed plans_ok hubDeaf.sumsG_ok (pN17x4_run) pN17x4_ok (fun i => if i = 0 then 17 else if i = 1 then 4 else 0) (fun x hx => by cases hx) (rgOk_cons (⟨Int.le_refl _, Int.le_refl _⟩) (rgOk_cons (⟨Int.le_refl _, Int.le_refl _⟩) (rgOk_nil))) (fun d hd => by simp [pN17x4_dead] at hd) (xs := [.int .i64 17, .int .i64 4]) (by rfl) w

def pN17x5_dead : List (List (SB × Bool)) := []
noncomputable def pN17x5_tree : R := fillT endT []
set_option maxRecDepth 1000000 in
theorem pN17x5_run : evCall Tryz.prog plans hubDeaf.sumsG 100000 6 [.int .i64 (.lit (.ofNat 17)), .int .i64 (.lit (.ofNat 5))] (s0 [] [[]] [((.ofNat 17), (.ofNat 17)), ((.ofNat 5), (.ofNat 5))]) finK = pN17x5_tree := by kernel_rfl
set_option maxRecDepth 1000000 in
theorem pN17x5_ok : okTree pN17x5_tree true [] pN17x5_dead = true := by kernel_rfl
theorem pN17x5_any (a0 : Int) (h0 : 17 ≤ a0 ∧ a0 ≤ 17) (a1 : Int) (h1 : 5 ≤ a1 ∧ a1 ≤ 5) (w : World) : Calls Tryz.prog 6 #[.int .i64 a0, .int .i64 a1] w fun e w' => e = .returned (.bool true) ∧ Kp [] w w' := by
  obtain rfl : a0 = 17 := by omega
  obtain rfl : a1 = 5 := by omega
  exact run_bool (ds := pN17x5_dead) follows_mixed plans_ok hubDeaf.sumsG_ok (pN17x5_run) pN17x5_ok (fun i => if i = 0 then 17 else if i = 1 then 5 else 0) (fun x hx => by cases hx) (rgOk_cons (⟨Int.le_refl _, Int.le_refl _⟩) (rgOk_cons (⟨Int.le_refl _, Int.le_refl _⟩) (rgOk_nil))) (fun d hd => by simp [pN17x5_dead] at hd) (xs := [.int .i64 17, .int .i64 5]) (by rfl) w

def pN17x6_dead : List (List (SB × Bool)) := []
noncomputable def pN17x6_tree : R := fillT endT []
set_option maxRecDepth 1000000 in
theorem pN17x6_run : evCall Tryz.prog plans hubDeaf.sumsG 100000 6 [.int .i64 (.lit (.ofNat 17)), .int .i64 (.lit (.ofNat 6))] (s0 [] [[]] [((.ofNat 17), (.ofNat 17)), ((.ofNat 6), (.ofNat 6))]) finK = pN17x6_tree := by kernel_rfl
set_option maxRecDepth 1000000 in
theorem pN17x6_ok : okTree pN17x6_tree true [] pN17x6_dead = true := by kernel_rfl
theorem pN17x6_any (a0 : Int) (h0 : 17 ≤ a0 ∧ a0 ≤ 17) (a1 : Int) (h1 : 6 ≤ a1 ∧ a1 ≤ 6) (w : World) : Calls Tryz.prog 6 #[.int .i64 a0, .int .i64 a1] w fun e w' => e = .returned (.bool true) ∧ Kp [] w w' := by
  obtain rfl : a0 = 17 := by omega
  obtain rfl : a1 = 6 := by omega
  exact run_bool (ds := pN17x6_dead) follows_mixed plans_ok hubDeaf.sumsG_ok (pN17x6_run) pN17x6_ok (fun i => if i = 0 then 17 else if i = 1 then 6 else 0) (fun x hx => by cases hx) (rgOk_cons (⟨Int.le_refl _, Int.le_refl _⟩) (rgOk_cons (⟨Int.le_refl _, Int.le_refl _⟩) (rgOk_nil))) (fun d hd => by simp [pN17x6_dead] at hd) (xs := [.int .i64 17, .int .i64 6]) (by rfl) w

end Go.Proofs.YtlmpmmcefdhgmaaGreat.hubDeaf

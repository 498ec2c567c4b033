/-
  HubDeaf: runs, N7x4, N7x5, N7x6, N7x7, N8x0, N8x1, N8x2, N8x3, N8x4, N8x5, N8x6, N8x7, N8x8, N9x0, N9x1, N9x2, N9x3, N9x4, N9x5, N9x6, N9x7, N9x8, N9x9, N10x0, N10x1, N10x2, N10x3, N10x4, N10x5, N10x6, N10x7, N10x8.
-/
import Derived.Test.YtlmpmmcefdhgmaaGreatSgDS
import Derived.Test.YtlmpmmcefdhgmaaGreatRs
import Derived.Test.YtlmpmmcefdhgmaaGreatPlsOk
set_option linter.unusedVariables false
set_option linter.unusedSimpArgs false
namespace Go.Proofs.YtlmpmmcefdhgmaaGreat.hubDeaf
open Go

def pN7x4_dead : List (List (SB × Bool)) := []
noncomputable def pN7x4_tree : R := fillT endT []
set_option maxRecDepth 1000000 in
theorem pN7x4_run : evCall Tryz.prog plans hubDeaf.sumsG 100000 6 [.int .i64 (.lit (.ofNat 7)), .int .i64 (.lit (.ofNat 4))] (s0 [] [[]] [((.ofNat 7), (.ofNat 7)), ((.ofNat 4), (.ofNat 4))]) finK = pN7x4_tree := by kernel_rfl
set_option maxRecDepth 1000000 in
theorem pN7x4_ok : okTree pN7x4_tree true [] pN7x4_dead = true := by kernel_rfl
theorem pN7x4_any (a0 : Int) (h0 : 7 ≤ a0 ∧ a0 ≤ 7) (a1 : Int) (h1 : 4 ≤ a1 ∧ a1 ≤ 4) (w : World) : Calls Tryz.prog 6 #[.int .i64 a0, .int .i64 a1] w fun e w' => e = .returned (.bool true) ∧ Kp [] w w' := by
  obtain rfl : a0 = 7 := by omega
  obtain rfl : a1 = 4 := by omega
  exact run_bool (ds := pN7x4_dead) follows_mixed plans_ok hubDeaf.sumsG_ok (pN7x4_run) pN7x4_ok (fun i => if i = 0 then 7 else if i = 1 then 4 else 0) (fun x hx => by cases hx) (rgOk_cons (⟨Int.le_refl _, Int.le_refl _⟩) (rgOk_cons (⟨Int.le_refl _, Int.le_refl _⟩) (rgOk_nil))) (fun d hd => by simp [pN7x4_dead] at hd) (xs := [.int .i64 7, .int .i64 4]) (by rfl) w

def pN7x5_dead : List (List (SB × Bool)) := []
noncomputable def pN7x5_tree : R := fillT endT []
set_option maxRecDepth 1000000 in
theorem pN7x5_run : evCall Tryz.prog plans hubDeaf.sumsG 100000 6 [.int .i64 (.lit (.ofNat 7)), .int .i64 (.lit (.ofNat 5))] (s0 [] [[]] [((.ofNat 7), (.ofNat 7)), ((.ofNat 5), (.ofNat 5))]) finK = pN7x5_tree := by kernel_rfl
set_option maxRecDepth 1000000 in
theorem pN7x5_ok : okTree pN7x5_tree true [] pN7x5_dead = true := by kernel_rfl
theorem pN7x5_any (a0 : Int) (h0 : 7 ≤ a0 ∧ a0 ≤ 7) (a1 : Int) (h1 : 5 ≤ a1 ∧ a1 ≤ 5) (w : World) : Calls Tryz.prog 6 #[.int .i64 a0, .int .i64 a1] w fun e w' => e = .returned (.bool true) ∧ Kp [] w w' := by
  obtain rfl : a0 = 7 := by omega
  obtain rfl : a1 = 5 := by omega
  exact run_bool (ds := pN7x5_dead) follows_mixed plans_ok hubDeaf.sumsG_ok (pN7x5_run) pN7x5_ok (fun i => if i = 0 then 7 else if i = 1 then 5 else 0) (fun x hx => by cases hx) (rgOk_cons (⟨Int.le_refl _, Int.le_refl _⟩) (rgOk_cons (⟨Int.le_refl _, Int.le_refl _⟩) (rgOk_nil))) (fun d hd => by simp [pN7x5_dead] at hd) (xs := [.int .i64 7, .int .i64 5]) (by rfl) w

def pN7x6_dead : List (List (SB × Bool)) := []
noncomputable def pN7x6_tree : R := fillT endT []
set_option maxRecDepth 1000000 in
theorem pN7x6_run : evCall Tryz.prog plans hubDeaf.sumsG 100000 6 [.int .i64 (.lit (.ofNat 7)), .int .i64 (.lit (.ofNat 6))] (s0 [] [[]] [((.ofNat 7), (.ofNat 7)), ((.ofNat 6), (.ofNat 6))]) finK = pN7x6_tree := by kernel_rfl
set_option maxRecDepth 1000000 in
theorem pN7x6_ok : okTree pN7x6_tree true [] pN7x6_dead = true := by kernel_rfl
theorem pN7x6_any (a0 : Int) (h0 : 7 ≤ a0 ∧ a0 ≤ 7) (a1 : Int) (h1 : 6 ≤ a1 ∧ a1 ≤ 6) (w : World) : Calls Tryz.prog 6 #[.int .i64 a0, .int .i64 a1] w fun e w' => e = .returned (.bool true) ∧ Kp [] w w' := by
  obtain rfl : a0 = 7 := by omega
  obtain rfl : a1 = 6 := by omega
  exact run_bool (ds := pN7x6_dead) follows_mixed plans_ok hubDeaf.sumsG_ok (pN7x6_run) pN7x6_ok (fun i => if i = 0 then 7 else if i = 1 then 6 else 0) (fun x hx => by cases hx) (rgOk_cons (⟨Int.le_refl _, Int.le_refl _⟩) (rgOk_cons (⟨Int.le_refl _, Int.le_refl _⟩) (rgOk_nil))) (fun d hd => by simp [pN7x6_dead] at hd) (xs := [.int .i64 7, .int .i64 6]) (by rfl) w

def pN7x7_dead : List (List (SB × Bool)) := []
noncomputable def pN7x7_tree : R := fillT endT []
set_option maxRecDepth 1000000 in
theorem pN7x7_run : evCall Tryz.prog plans hubDeaf.sumsG 100000 6 [.int .i64 (.lit (.ofNat 7)), .int .i64 (.lit (.ofNat 7))] (s0 [] [[]] [((.ofNat 7), (.ofNat 7)), ((.ofNat 7), (.ofNat 7))]) finK = pN7x7_tree := by kernel_rfl
set_option maxRecDepth 1000000 in
theorem pN7x7_ok : okTree pN7x7_tree true [] pN7x7_dead = true := by kernel_rfl
theorem pN7x7_any (a0 : Int) (h0 : 7 ≤ a0 ∧ a0 ≤ 7) (a1 : Int) (h1 : 7 ≤ a1 ∧ a1 ≤ 7) (w : World) : Calls Tryz.prog 6 #[.int .i64 a0, .int .i64 a1] w fun e w' => e = .returned (.bool true) ∧ Kp [] w w' := by
  obtain rfl : a0 = 7 := by omega
  obtain rfl : a1 = 7 := by omega
  exact run_bool (ds := pN7x7_dead) follows_mixed plans_ok hubDeaf.sumsG_ok (pN7x7_run) pN7x7_ok (fun i => if i = 0 then 7 else if i = 1 then 7 else 0) (fun x hx => by cases hx) (rgOk_cons (⟨Int.le_refl _, Int.le_refl _⟩) (rgOk_cons (⟨Int.le_refl _, Int.le_refl _⟩) (rgOk_nil))) (fun d hd => by simp [pN7x7_dead] at hd) (xs := [.int .i64 7, .int .i64 7]) (by rfl) w

def pN8x0_dead : List (List (SB × Bool)) := []
noncomputable def pN8x0_tree : R := fillT endT []
set_option maxRecDepth 1000000 in
theorem pN8x0_run : evCall Tryz.prog plans hubDeaf.sumsG 100000 6 [.int .i64 (.lit (.ofNat 8)), .int .i64 (.lit (.ofNat 0))] (s0 [] [[]] [((.ofNat 8), (.ofNat 8)), ((.ofNat 0), (.ofNat 0))]) finK = pN8x0_tree := by kernel_rfl
set_option maxRecDepth 1000000 in
theorem pN8x0_ok : okTree pN8x0_tree true [] pN8x0_dead = true := by kernel_rfl
theorem pN8x0_any (a0 : Int) (h0 : 8 ≤ a0 ∧ a0 ≤ 8) (a1 : Int) (h1 : 0 ≤ a1 ∧ a1 ≤ 0) (w : World) : Calls Tryz.prog 6 #[.int .i64 a0, .int .i64 a1] w fun e w' => e = .returned (.bool true) ∧ Kp [] w w' := by
  obtain rfl : a0 = 8 := by omega
  obtain rfl : a1 = 0 := by omega
  exact run_bool (ds := pN8x0_dead) follows_mixed plans_ok hubDeaf.sumsG_ok (pN8x0_run) pN8x0_ok (fun i => if i = 0 then 8 else if i = 1 then 0 else 0) (fun x hx => by cases hx) (rgOk_cons (⟨Int.le_refl _, Int.le_refl _⟩) (rgOk_cons (⟨Int.le_refl _, Int.le_refl _⟩) (rgOk_nil))) (fun d hd => by simp [pN8x0_dead] at hd) (xs := [.int .i64 8, .int .i64 0]) (by rfl) w

def pN8x1_dead : List (List (SB × Bool)) := []
noncomputable def pN8x1_tree : R := fillT endT []
set_option maxRecDepth 1000000 in
theorem pN8x1_run : evCall Tryz.prog plans hubDeaf.sumsG 100000 6 [.int .i64 (.lit (.ofNat 8)), .int .i64 (.lit (.ofNat 1))] (s0 [] [[]] [((.ofNat 8), (.ofNat 8)), ((.ofNat 1), (.ofNat 1))]) finK = pN8x1_tree := by kernel_rfl
set_option maxRecDepth 1000000 in
theorem pN8x1_ok : okTree pN8x1_tree true [] pN8x1_dead = true := by kernel_rfl
theorem pN8x1_any (a0 : Int) (h0 : 8 ≤ a0 ∧ a0 ≤ 8) (a1 : Int) (h1 : 1 ≤ a1 ∧ a1 ≤ 1) (w : World) : Calls Tryz.prog 6 #[.int .i64 a0, .int .i64 a1] w fun e w' => e = .returned (.bool true) ∧ Kp [] w w' := by
  obtain rfl : a0 = 8 := by omega
  obtain rfl : a1 = 1 := by omega
  exact run_bool (ds := pN8x1_dead) follows_mixed plans_ok hubDeaf.sumsG_ok (pN8x1_run) pN8x1_ok (fun i => if i = 0 then 8 else if i = 1 then 1 else 0) (fun x hx => by cases hx) (rgOk_cons (⟨Int.le_refl _, Int.le_refl _⟩) (rgOk_cons (⟨Int.le_refl _, Int.le_refl _⟩) (rgOk_nil))) (fun d hd => by simp [pN8x1_dead] at hd) (xs := [.int .i64 8, .int .i64 1]) (by rfl) w

def pN8x2_dead : List (List (SB × Bool)) := []
noncomputable def pN8x2_tree : R := fillT endT []
set_option maxRecDepth 1000000 in
theorem pN8x2_run : evCall Tryz.prog plans hubDeaf.sumsG 100000 6 [.int .i64 (.lit (.ofNat 8)), .int .i64 (.lit (.ofNat 2))] (s0 [] [[]] [((.ofNat 8), (.ofNat 8)), ((.ofNat 2), (.ofNat 2))]) finK = pN8x2_tree := by kernel_rfl
set_option maxRecDepth 1000000 in
theorem pN8x2_ok : okTree pN8x2_tree true [] pN8x2_dead = true := by kernel_rfl
theorem pN8x2_any (a0 : Int) (h0 : 8 ≤ a0 ∧ a0 ≤ 8) (a1 : Int) (h1 : 2 ≤ a1 ∧ a1 ≤ 2) (w : World) : Calls Tryz.prog 6 #[.int .i64 a0, .int .i64 a1] w fun e w' => e = .returned (.bool true) ∧ Kp [] w w' := by
  obtain rfl : a0 = 8 := by omega
  obtain rfl : a1 = 2 := by omega
  exact run_bool (ds := pN8x2_dead) follows_mixed plans_ok hubDeaf.sumsG_ok (pN8x2_run) pN8x2_ok (fun i => if i = 0 then 8 else if i = 1 then 2 else 0) (fun x hx => by cases hx) (rgOk_cons (⟨Int.le_refl _, Int.le_refl _⟩) (rgOk_cons (⟨Int.le_refl _, Int.le_refl _⟩) (rgOk_nil))) (fun d hd => by simp [pN8x2_dead] at hd) (xs := [.int .i64 8, .int .i64 2]) (by rfl) w

def pN8x3_dead : List (List (SB × Bool)) := []
noncomputable def pN8x3_tree : R := fillT endT []
set_option maxRecDepth 1000000 in
theorem pN8x3_run : evCall Tryz.prog plans hubDeaf.sumsG 100000 6 [.int .i64 (.lit (.ofNat 8)), .int .i64 (.lit (.ofNat 3))] (s0 [] [[]] [((.ofNat 8), (.ofNat 8)), ((.ofNat 3), (.ofNat 3))]) finK = pN8x3_tree := by kernel_rfl
set_option maxRecDepth 1000000 in
theorem pN8x3_ok : okTree pN8x3_tree true [] pN8x3_dead = true := by kernel_rfl
theorem pN8x3_any (a0 : Int) (h0 : 8 ≤ a0 ∧ a0 ≤ 8) (a1 : Int) (h1 : 3 ≤ a1 ∧ a1 ≤ 3) (w : World) : Calls Tryz.prog 6 #[.int .i64 a0, .int .i64 a1] w fun e w' => e = .returned (.bool true) ∧ Kp [] w w' := by
  obtain rfl : a0 = 8 := by omega
  obtain rfl : a1 = 3 := by omega
  exact run_bool (ds := pN8x3_dead) follows_mixed plans_ok hubDeaf.sumsG_ok (pN8x3_run) pN8x3_ok (fun i => if i = 0 then 8 else if i = 1 then 3 else 0) (fun x hx => by cases hx) (rgOk_cons (⟨Int.le_refl _, Int.le_refl _⟩) (rgOk_cons (⟨Int.le_refl _, Int.le_refl _⟩) (rgOk_nil))) (fun d hd => by simp [pN8x3_dead] at hd) (xs := [.int .i64 8, .int .i64 3]) (by rfl) w

def pN8x4_dead : List (List (SB × Bool)) := []
noncomputable def pN8x4_tree : R := fillT endT []
set_option maxRecDepth 1000000 in
theorem pN8x4_run : evCall Tryz.prog plans hubDeaf.sumsG 100000 6 [.int .i64 (.lit (.ofNat 8)), .int .i64 (.lit (.ofNat 4))] (s0 [] [[]] [((.ofNat 8), (.ofNat 8)), ((.ofNat 4), (.ofNat 4))]) finK = pN8x4_tree := by kernel_rfl
set_option maxRecDepth 1000000 in
theorem pN8x4_ok : okTree pN8x4_tree true [] pN8x4_dead = true := by kernel_rfl
theorem pN8x4_any (a0 : Int) (h0 : 8 ≤ a0 ∧ a0 ≤ 8) (a1 : Int) (h1 : 4 ≤ a1 ∧ a1 ≤ 4) (w : World) : Calls Tryz.prog 6 #[.int .i64 a0, .int .i64 a1] w fun e w' => e = .returned (.bool true) ∧ Kp [] w w' := by
  obtain rfl : a0 = 8 := by omega
  obtain rfl : a1 = 4 := by omega
  exact run_bool (ds := pN8x4_dead) follows_mixed plans_ok hubDeaf.sumsG_ok (pN8x4_run) pN8x4_ok (fun i => if i = 0 then 8 else if i = 1 then 4 else 0) (fun x hx => by cases hx) (rgOk_cons (⟨Int.le_refl _, Int.le_refl _⟩) (rgOk_cons (⟨Int.le_refl _, Int.le_refl _⟩) (rgOk_nil))) (fun d hd => by simp [pN8x4_dead] at hd) (xs := [.int .i64 8, .int .i64 4]) (by rfl) w

def pN8x5_dead : List (List (SB × Bool)) := []
noncomputable def pN8x5_tree : R := fillT endT []
set_option maxRecDepth 1000000 in
theorem pN8x5_run : evCall Tryz.prog plans hubDeaf.sumsG 100000 6 [.int .i64 (.lit (.ofNat 8)), .int .i64 (.lit (.ofNat 5))] (s0 [] [[]] [((.ofNat 8), (.ofNat 8)), ((.ofNat 5), (.ofNat 5))]) finK = pN8x5_tree := by kernel_rfl
set_option maxRecDepth 1000000 in
theorem pN8x5_ok : okTree pN8x5_tree true [] pN8x5_dead = true := by kernel_rfl
theorem pN8x5_any (a0 : Int) (h0 : 8 ≤ a0 ∧ a0 ≤ 8) (a1 : Int) (h1 : 5 ≤ a1 ∧ a1 ≤ 5) (w : World) : Calls Tryz.prog 6 #[.int .i64 a0, .int .i64 a1] w fun e w' => e = .returned (.bool true) ∧ Kp [] w w' := by
  obtain rfl : a0 = 8 := by omega
  obtain rfl : a1 = 5 := by omega
  exact run_bool (ds := pN8x5_dead) follows_mixed plans_ok hubDeaf.sumsG_ok (pN8x5_run) pN8x5_ok (fun i => if i = 0 then 8 else if i = 1 then 5 else 0) (fun x hx => by cases hx) (rgOk_cons (⟨Int.le_refl _, Int.le_refl _⟩) (rgOk_cons (⟨Int.le_refl _, Int.le_refl _⟩) (rgOk_nil))) (fun d hd => by simp [pN8x5_dead] at hd) (xs := [.int .i64 8, .int .i64 5]) (by rfl) w

def pN8x6_dead : List (List (SB × Bool)) := []
noncomputable def pN8x6_tree : R := fillT endT []
set_option maxRecDepth 1000000 in
theorem pN8x6_run : evCall Tryz.prog plans hubDeaf.sumsG 100000 6 [.int .i64 (.lit (.ofNat 8)), .int .i64 (.lit (.ofNat 6))] (s0 [] [[]] [((.ofNat 8), (.ofNat 8)), ((.ofNat 6), (.ofNat 6))]) finK = pN8x6_tree := by kernel_rfl
set_option maxRecDepth 1000000 in
theorem pN8x6_ok : okTree pN8x6_tree true [] pN8x6_dead = true := by kernel_rfl
theorem pN8x6_any (a0 : Int) (h0 : 8 ≤ a0 ∧ a0 ≤ 8) (a1 : Int) (h1 : 6 ≤ a1 ∧ a1 ≤ 6) (w : World) : Calls Tryz.prog 6 #[.int .i64 a0, .int .i64 a1] w fun e w' => e = .returned (.bool true) ∧ Kp [] w w' := by
  obtain rfl : a0 = 8 := by omega
  obtain rfl : a1 = 6 := by omega
  exact run_bool (ds := pN8x6_dead) follows_mixed plans_ok hubDeaf.sumsG_ok (pN8x6_run) pN8x6_ok (fun i => if i = 0 then 8 else if i = 1 then 6 else 0) (fun x hx => by cases hx) (rgOk_cons (⟨Int.le_refl _, Int.le_refl _⟩) (rgOk_cons (⟨Int.le_refl _, Int.le_refl _⟩) (rgOk_nil))) (fun d hd => by simp [pN8x6_dead] at hd) (xs := [.int .i64 8, .int .i64 6]) (by rfl) w

def pN8x7_dead : List (List (SB × Bool)) := []
noncomputable def pN8x7_tree : R := fillT endT []
set_option maxRecDepth 1000000 in
theorem pN8x7_run : evCall Tryz.prog plans hubDeaf.sumsG 100000 6 [.int .i64 (.lit (.ofNat 8)), .int .i64 (.lit (.ofNat 7))] (s0 [] [[]] [((.ofNat 8), (.ofNat 8)), ((.ofNat 7), (.ofNat 7))]) finK = pN8x7_tree := by kernel_rfl
set_option maxRecDepth 1000000 in
theorem pN8x7_ok : okTree pN8x7_tree true [] pN8x7_dead = true := by kernel_rfl
theorem pN8x7_any (a0 : Int) (h0 : 8 ≤ a0 ∧ a0 ≤ 8) (a1 : Int) (h1 : 7 ≤ a1 ∧ a1 ≤ 7) (w : World) : Calls Tryz.prog 6 #[.int .i64 a0, .int .i64 a1] w fun e w' => e = .returned (.bool true) ∧ Kp [] w w' := by
  obtain rfl : a0 = 8 := by omega
  obtain rfl : a1 = 7 := by omega
  exact run_bool (ds := pN8x7_dead) follows_mixed plans_ok hubDeaf.sumsG_ok (pN8x7_run) pN8x7_ok (fun i => if i = 0 then 8 else if i = 1 then 7 else 0) (fun x hx => by cases hx) (rgOk_cons (⟨Int.le_refl _, Int.le_refl _⟩) (rgOk_cons (⟨Int.le_refl _, Int.le_refl _⟩) (rgOk_nil))) (fun d hd => by simp [pN8x7_dead] at hd) (xs := [.int .i64 8, .int .i64 7]) (by rfl) w

def pN8x8_dead : List (List (SB × Bool)) := []
noncomputable def pN8x8_tree : R := fillT endT []
set_option maxRecDepth 1000000 in
theorem pN8x8_run : evCall Tryz.prog plans hubDeaf.sumsG 100000 6 [.int .i64 (.lit (.ofNat 8)), .int .i64 (.lit (.ofNat 8))] (s0 [] [[]] [((.ofNat 8), (.ofNat 8)), ((.ofNat 8), (.ofNat 8))]) finK = pN8x8_tree := by kernel_rfl
set_option maxRecDepth 1000000 in
theorem pN8x8_ok : okTree pN8x8_tree true [] pN8x8_dead = true := by kernel_rfl
theorem pN8x8_any (a0 : Int) (h0 : 8 ≤ a0 ∧ a0 ≤ 8) (a1 : Int) (h1 : 8 ≤ a1 ∧ a1 ≤ 8) (w : World) : Calls Tryz.prog 6 #[.int .i64 a0, .int .i64 a1] w fun e w' => e = .returned (.bool true) ∧ Kp [] w w' := by
  obtain rfl : a0 = 8 := by omega
  obtain rfl : a1 = 8 := by omega
  exact run_bool (ds := pN8x8_dead) follows_mixed plans_ok hubDeaf.sumsG_ok (pN8x8_run) pN8x8_ok (fun i => if i = 0 then 8 else if i = 1 then 8 else 0) (fun x hx => by cases hx) (rgOk_cons (⟨Int.le_refl _, Int.le_refl _⟩) (rgOk_cons (⟨Int.le_refl _, Int.le_refl _⟩) (rgOk_nil))) (fun d hd => by simp [pN8x8_dead] at hd) (xs := [.int .i64 8, .int .i64 8]) (by rfl) w

def pN9x0_dead : List (List (SB × Bool)) := []
noncomputable def pN9x0_tree : R := fillT endT []
set_option maxRecDepth 1000000 in
theorem pN9x0_run : evCall Tryz.prog plans hubDeaf.sumsG 100000 6 [.int .i64 (.lit (.ofNat 9)), .int .i64 (.lit (.ofNat 0))] (s0 [] [[]] [((.ofNat 9), (.ofNat 9)), ((.ofNat 0), (.ofNat 0))]) finK = pN9x0_tree := by kernel_rfl
set_option maxRecDepth 1000000 in
theorem pN9x0_ok : okTree pN9x0_tree true [] pN9x0_dead = true := by kernel_rfl
theorem pN9x0_any (a0 : Int) (h0 : 9 ≤ a0 ∧ a0 ≤ 9) (a1 : Int) (h1 : 0 ≤ a1 ∧ a1 ≤ 0) (w : World) : Calls Tryz.prog 6 #[.int .i64 a0, .int .i64 a1] w fun e w' => e = .returned (.bool true) ∧ Kp [] w w' := by
  obtain rfl : a0 = 9 := by omega
  obtain rfl : a1 = 0 := by omega
  exact run_bool (ds := pN9x0_dead) follows_mixed plans_ok hubDeaf.sumsG_ok (pN9x0_run) pN9x0_ok (fun i => if i = 0 then 9 else if i = 1 then 0 else 0) (fun x hx => by cases hx) (rgOk_cons (⟨Int.le_refl _, Int.le_refl _⟩) (rgOk_cons (⟨Int.le_refl _, Int.le_refl _⟩) (rgOk_nil))) (fun d hd => by simp [pN9x0_dead] at hd) (xs := [.int .i64 9, .int .i64 0]) (by rfl) w

def pN9x1_dead : List (List (SB × Bool)) := []
noncomputable def pN9x1_tree : R := fillT endT []
set_option maxRecDepth 1000000 in
theorem pN9x1_run : evCall Tryz.prog plans hubDeaf.sumsG 100000 6 [.int .i64 (.lit (.ofNat 9)), .int .i64 (.lit (.ofNat 1))] (s0 [] [[]] [((.ofNat 9), (.ofNat 9)), ((.ofNat 1), (.ofNat 1))]) finK = pN9x1_tree := by kernel_rfl
set_option maxRecDepth 1000000 in
theorem pN9x1_ok : okTree pN9x1_tree true [] pN9x1_dead = true := by kernel_rfl
theorem pN9x1_any (a0 : Int) (h0 : 9 ≤ a0 ∧ a0 ≤ 9) (a1 : Int) (h1 : 1 ≤ a1 ∧ a1 ≤ 1) (w : World) : Calls Tryz.prog 6 #[.int .i64 a0, .int .i64 a1] w fun e w' => e = .returned (.bool true) ∧ Kp [] w w' := by
  obtain rfl : a0 = 9 := by omega
  obtain rfl : a1 = 1 := by omega
  exact run_bool (ds := pN9x1_dead) follows_mixed plans_ok hubDeaf.sumsG_ok (pN9x1_run) pN9x1_ok (fun i => if i = 0 then 9 else if i = 1 then 1 else 0) (fun x hx => by cases hx) (rgOk_cons (⟨Int.le_refl _, Int.le_refl _⟩) (rgOk_cons (⟨Int.le_refl _, Int.le_refl _⟩) (rgOk_nil))) (fun d hd => by simp [pN9x1_dead] at hd) (xs := [.int .i64 9, .int .i64 1]) (by rfl) w

def pN9x2_dead : List (List (SB × Bool)) := []
noncomputable def pN9x2_tree : R := fillT endT []
set_option maxRecDepth 1000000 in
theorem pN9x2_run : evCall Tryz.prog plans hubDeaf.sumsG 100000 6 [.int .i64 (.lit (.ofNat 9)), .int .i64 (.lit (.ofNat 2))] (s0 [] [[]] [((.ofNat 9), (.ofNat 9)), ((.ofNat 2), (.ofNat 2))]) finK = pN9x2_tree := by kernel_rfl
set_option maxRecDepth 1000000 in
theorem pN9x2_ok : okTree pN9x2_tree true [] pN9x2_dead = true := by kernel_rfl
theorem pN9x2_any (a0 : Int) (h0 : 9 ≤ a0 ∧ a0 ≤ 9) (a1 : Int) (h1 : 2 ≤ a1 ∧ a1 ≤ 2) (w : World) : Calls Tryz.prog 6 #[.int .i64 a0, .int .i64 a1] w fun e w' => e = .returned (.bool true) ∧ Kp [] w w' := by
  obtain rfl : a0 = 9 := by omega
  obtain rfl : a1 = 2 := by omega
  exact run_bool (ds := pN9x2_dead) follows_mixed plans_ok hubDeaf.sumsG_ok (pN9x2_run) pN9x2_ok (fun i => if i = 0 then 9 else if i = 1 then 2 else 0) (fun x hx => by cases hx) (rgOk_cons (⟨Int.le_refl _, Int.le_refl _⟩) (rgOk_cons (⟨Int.le_refl _, Int.le_refl _⟩) (rgOk_nil))) (fun d hd => by simp [pN9x2_dead] at hd) (xs := [.int .i64 9, .int .i64 2]) (by rfl) w

def pN9x3_dead : List (List (SB × Bool)) := []
noncomputable def pN9x3_tree : R := fillT endT []
set_option maxRecDepth 1000000 in
theorem pN9x3_run : evCall Tryz.prog plans hubDeaf.sumsG 100000 6 [.int .i64 (.lit (.ofNat 9)), .int .i64 (.lit (.ofNat 3))] (s0 [] [[]] [((.ofNat 9), (.ofNat 9)), ((.ofNat 3), (.ofNat 3))]) finK = pN9x3_tree := by kernel_rfl
set_option maxRecDepth 1000000 in
theorem pN9x3_ok : okTree pN9x3_tree true [] pN9x3_dead = true := by kernel_rfl
theorem pN9x3_any (a0 : Int) (h0 : 9 ≤ a0 ∧ a0 ≤ 9) (a1 : Int) (h1 : 3 ≤ a1 ∧ a1 ≤ 3) (w : World) : Calls Tryz.prog 6 #[.int .i64 a0, .int .i64 a1] w fun e w' => e = .returned (.bool true) ∧ Kp [] w w' := by
  obtain rfl : a0 = 9 := by omega
  obtain rfl : a1 = 3 := by omega
  exact run_bool (ds := pN9x3_dead) follows_mixed plans_ok hubDeaf.sumsG_ok (pN9x3_run) pN9x3_ok (fun i => if i = 0 then 9 else if i = 1 then 3 else 0) (fun x hx => by cases hx) (rgOk_cons (⟨Int.le_refl _, Int.le_refl _⟩) (rgOk_cons (⟨Int.le_refl _, Int.le_refl _⟩) (rgOk_nil))) (fun d hd => by simp [pN9x3_dead] at hd) (xs := [.int .i64 9, .int .i64 3]) (by rfl) w

def pN9x4_dead : List (List (SB × Bool)) := []
noncomputable def pN9x4_tree : R := fillT endT []
set_option maxRecDepth 1000000 in
theorem pN9x4_run : evCall Tryz.prog plans hubDeaf.sumsG 100000 6 [.int .i64 (.lit (.ofNat 9)), .int .i64 (.lit (.ofNat 4))] (s0 [] [[]] [((.ofNat 9), (.ofNat 9)), ((.ofNat 4), (.ofNat 4))]) finK = pN9x4_tree := by kernel_rfl
set_option maxRecDepth 1000000 in
theorem pN9x4_ok : okTree pN9x4_tree true [] pN9x4_dead = true := by kernel_rfl
theorem pN9x4_any (a0 : Int) (h0 : 9 ≤ a0 ∧ a0 ≤ 9) (a1 : Int) (h1 : 4 ≤ a1 ∧ a1 ≤ 4) (w : World) : Calls Tryz.prog 6 #[.int .i64 a0, .int .i64 a1] w fun e w' => e = .returned (.bool true) ∧ Kp [] w w' := by
  obtain rfl : a0 = 9 := by omega
  obtain rfl : a1 = 4 := by omega
  exact run_bool (ds := pN9x4_dead) follows_mixed plans_ok hubDeaf.sumsG_ok (pN9x4_run) pN9x4_ok (fun i => if i = 0 then 9 else if i = 1 then 4 else 0) (fun x hx => by cases hx) (rgOk_cons (⟨Int.le_refl _, Int.le_refl _⟩) (rgOk_cons (⟨Int.le_refl _, Int.le_refl _⟩) (rgOk_nil))) (fun d hd => by simp [pN9x4_dead] at hd) (xs := [.int .i64 9, .int .i64 4]) (by rfl) w

def pN9x5_dead : List (List (SB × Bool)) := []
noncomputable def pN9x5_tree : R := fillT endT []
set_option maxRecDepth 1000000 in
theorem pN9x5_run : evCall Tryz.prog plans hubDeaf.sumsG 100000 6 [.int .i64 (.lit (.ofNat 9)), .int .i64 (.lit (.ofNat 5))] (s0 [] [[]] [((.ofNat 9), (.ofNat 9)), ((.ofNat 5), (.ofNat 5))]) finK = pN9x5_tree := by kernel_rfl
set_option maxRecDepth 1000000 in
theorem pN9x5_ok : okTree pN9x5_tree true [] pN9x5_dead = true := by kernel_rfl
theorem pN9x5_any (a0 : Int) (h0 : 9 ≤ a0 ∧ a0 ≤ 9) (a1 : Int) (h1 : 5 ≤ a1 ∧ a1 ≤ 5) (w : World) : Calls Tryz.prog 6 #[.int .i64 a0, .int .i64 a1] w fun e w' => e = .returned (.bool true) ∧ Kp [] w w' := by
  obtain rfl : a0 = 9 := by omega
  obtain rfl : a1 = 5 := by omega
  exact run_bool (ds := pN9x5_dead) follows_mixed plans_ok hubDeaf.sumsG_ok (pN9x5_run) pN9x5_ok (fun i => if i = 0 then 9 else if i = 1 then 5 else 0) (fun x hx => by cases hx) (rgOk_cons (⟨Int.le_refl _, Int.le_refl _⟩) (rgOk_cons (⟨Int.le_refl _, Int.le_refl _⟩) (rgOk_nil))) (fun d hd => by simp [pN9x5_dead] at hd) (xs := [.int .i64 9, .int .i64 5]) (by rfl) w

def pN9x6_dead : List (List (SB × Bool)) := []
noncomputable def pN9x6_tree : R := fillT endT []
set_option maxRecDepth 1000000 in
theorem pN9x6_run : evCall Tryz.prog plans hubDeaf.sumsG 100000 6 [.int .i64 (.lit (.ofNat 9)), .int .i64 (.lit (.ofNat 6))] (s0 [] [[]] [((.ofNat 9), (.ofNat 9)), ((.ofNat 6), (.ofNat 6))]) finK = pN9x6_tree := by kernel_rfl
set_option maxRecDepth 1000000 in
theorem pN9x6_ok : okTree pN9x6_tree true [] pN9x6_dead = true := by kernel_rfl
theorem pN9x6_any (a0 : Int) (h0 : 9 ≤ a0 ∧ a0 ≤ 9) (a1 : Int) (h1 : 6 ≤ a1 ∧ a1 ≤ 6) (w : World) : Calls Tryz.prog 6 #[.int .i64 a0, .int .i64 a1] w fun e w' => e = .returned (.bool true) ∧ Kp [] w w' := by
  obtain rfl : a0 = 9 := by omega
  obtain rfl : a1 = 6 := by omega
  exact run_bool (ds := pN9x6_dead) follows_mixed plans_ok hubDeaf.sumsG_ok (pN9x6_run) pN9x6_ok (fun i => if i = 0 then 9 else if i = 1 then 6 else 0) (fun x hx => by cases hx) (rgOk_cons (⟨Int.le_refl _, Int.le_refl _⟩) (rgOk_cons (⟨Int.le_refl _, Int.le_refl _⟩) (rgOk_nil))) (fun d hd => by simp [pN9x6_dead] at hd) (xs := [.int .i64 9, .int .i64 6]) (by rfl) w

def pN9x7_dead : List (List (SB × Bool)) := []
noncomputable def pN9x7_tree : R := fillT endT []
set_option maxRecDepth 1000000 in
theorem pN9x7_run : evCall Tryz.prog plans hubDeaf.sumsG 100000 6 [.int .i64 (.lit (.ofNat 9)), .int .i64 (.lit (.ofNat 7))] (s0 [] [[]] [((.ofNat 9), (.ofNat 9)), ((.ofNat 7), (.ofNat 7))]) finK = pN9x7_tree := by kernel_rfl
set_option maxRecDepth 1000000 in
theorem pN9x7_ok : okTree pN9x7_tree true [] pN9x7_dead = true := by kernel_rfl
theorem pN9x7_any (a0 : Int) (h0 : 9 ≤ a0 ∧ a0 ≤ 9) (a1 : Int) (h1 : 7 ≤ a1 ∧ a1 ≤ 7) (w : World) : Calls Tryz.prog 6 #[.int .i64 a0, .int .i64 a1] w fun e w' => e = .returned (.bool true) ∧ Kp [] w w' := by
  obtain rfl : a0 = 9 := by omega
  obtain rfl : a1 = 7 := by omega
  exact run_bool (ds := pN9x7_dead) follows_mixed plans_ok hubDeaf.sumsG_ok (pN9x7_run) pN9x7_ok (fun i => if i = 0 then 9 else if i = 1 then 7 else 0) (fun x hx => by cases hx) (rgOk_cons (⟨Int.le_refl _, Int.le_refl _⟩) (rgOk_cons (⟨Int.le_refl _, Int.le_refl _⟩) (rgOk_nil))) (fun d hd => by simp [pN9x7_dead] at hd) (xs := [.int .i64 9, .int .i64 7]) (by rfl) w

def pN9x8_dead : List (List (SB × Bool)) := []
noncomputable def pN9x8_tree : R := fillT endT []
set_option maxRecDepth 1000000 in
theorem pN9x8_run : evCall Tryz.prog plans hubDeaf.sumsG 100000 6 [.int .i64 (.lit (.ofNat 9)), .int .i64 (.lit (.ofNat 8))] (s0 [] [[]] [((.ofNat 9), (.ofNat 9)), ((.ofNat 8), (.ofNat 8))]) finK = pN9x8_tree := by kernel_rfl
set_option maxRecDepth 1000000 in
theorem pN9x8_ok : okTree pN9x8_tree true [] pN9x8_dead = true := by kernel_rfl
theorem pN9x8_any (a0 : Int) (h0 : 9 ≤ a0 ∧ a0 ≤ 9) (a1 : Int) (h1 : 8 ≤ a1 ∧ a1 ≤ 8) (w : World) : Calls Tryz.prog 6 #[.int .i64 a0, .int .i64 a1] w fun e w' => e = .returned (.bool true) ∧ Kp [] w w' := by
  obtain rfl : a0 = 9 := by omega
  obtain rfl : a1 = 8 := by omega
  exact run_bool (ds := pN9x8_dead) follows_mixed plans_ok hubDeaf.sumsG_ok (pN9x8_run) pN9x8_ok (fun i => if i = 0 then 9 else if i = 1 then 8 else 0) (fun x hx => by cases hx) (rgOk_cons (⟨Int.le_refl _, Int.le_refl _⟩) (rgOk_cons (⟨Int.le_refl _, Int.le_refl _⟩) (rgOk_nil))) (fun d hd => by simp [pN9x8_dead] at hd) (xs := [.int .i64 9, .int .i64 8]) (by rfl) w

def pN9x9_dead : List (List (SB × Bool)) := []
noncomputable def pN9x9_tree : R := fillT endT []
set_option maxRecDepth 1000000 in
theorem pN9x9_run : evCall Tryz.prog plans hubDeaf.sumsG 100000 6 [.int .i64 (.lit (.ofNat 9)), .int .i64 (.lit (.ofNat 9))] (s0 [] [[]] [((.ofNat 9), (.ofNat 9)), ((.ofNat 9), (.ofNat 9))]) finK = pN9x9_tree := by kernel_rfl
set_option maxRecDepth 1000000 in
theorem pN9x9_ok : okTree pN9x9_tree true [] pN9x9_dead = true := by kernel_rfl
theorem pN9x9_any (a0 : Int) (h0 : 9 ≤ a0 ∧ a0 ≤ 9) (a1 : Int) (h1 : 9 ≤ a1 ∧ a1 ≤ 9) (w : World) : Calls Tryz.prog 6 #[.int .i64 a0, .int .i64 a1] w fun e w' => e = .returned (.bool true) ∧ Kp [] w w' := by
  obtain rfl : a0 = 9 := by omega
  obtain rfl : a1 = 9 := by omega
  exact run_bool (ds := pN9x9_dead) follows_mixed plans_ok hubDeaf.sumsG_ok (pN9x9_run) pN9x9_ok (fun i => if i = 0 then 9 else if i = 1 then 9 else 0) (fun x hx => by cases hx) (rgOk_cons (⟨Int.le_refl _, Int.le_refl _⟩) (rgOk_cons (⟨Int.le_refl _, Int.le_refl _⟩) (rgOk_nil))) (fun d hd => by simp [pN9x9_dead] at hd) (xs := [.int .i64 9, .int .i64 9]) (by rfl) w

def pN10x0_dead : List (List (SB × Bool)) := []
noncomputable def pN10x0_tree : R := fillT endT []
set_option maxRecDepth 1000000 in
theorem pN10x0_run : evCall Tryz.prog plans hubDeaf.sumsG 100000 6 [.int .i64 (.lit (.ofNat 10)), .int .i64 (.lit (.ofNat 0))] (s0 [] [[]] [((.ofNat 10), (.ofNat 10)), ((.ofNat 0), (.ofNat 0))]) finK = pN10x0_tree := by kernel_rfl
set_option maxRecDepth 1000000 in
theorem pN10x0_ok : okTree pN10x0_tree true [] pN10x0_dead = true := by kernel_rfl
theorem pN10x0_any (a0 : Int) (h0 : 10 ≤ a0 ∧ a0 ≤ 10) (a1 : Int) (h1 : 0 ≤ a1 ∧ a1 ≤ 0) (w : World) : Calls Tryz.prog 6 #[.int .i64 a0, .int .i64 a1] w fun e w' => e = .returned (.bool true) ∧ Kp [] w w' := by
  obtain rfl : a0 = 10 := by omega
  obtain rfl : a1 = 0 := by omega
  exact run_bool (ds := pN10x0_dead) follows_mixed plans_ok hubDeaf.sumsG_ok (pN10x0_run) pN10x0_ok (fun i => if i = 0 then 10 else if i = 1 then 0 else 0) (fun x hx => by cases hx) (rgOk_cons (⟨Int.le_refl _, Int.le_refl _⟩) (rgOk_cons (⟨Int.le_refl _, Int.le_refl _⟩) (rgOk_nil))) (fun d hd => by simp [pN10x0_dead] at hd) (xs := [.int .i64 10, .int .i64 0]) (by rfl) w

def pN10x1_dead : List (List (SB × Bool)) := []
noncomputable def pN10x1_tree : R := fillT endT []
set_option maxRecDepth 1000000 in
theorem pN10x1_run : evCall Tryz.prog plans hubDeaf.sumsG 100000 6 [.int .i64 (.lit (.ofNat 10)), .int .i64 (.lit (.ofNat 1))] (s0 [] [[]] [((.ofNat 10), (.ofNat 10)), ((.ofNat 1), (.ofNat 1))]) finK = pN10x1_tree := by kernel_rfl
set_option maxRecDepth 1000000 in
theorem pN10x1_ok : okTree pN10x1_tree true [] pN10x1_dead = true := by kernel_rfl
theorem pN10x1_any (a0 : Int) (h0 : 10 ≤ a0 ∧ a0 ≤ 10) (a1 : Int) (h1 : 1 ≤ a1 ∧ a1 ≤ 1) (w : World) : Calls Tryz.prog 6 #[.int .i64 a0, .int .i64 a1] w fun e w' => e = .returned (.bool true) ∧ Kp [] w w' := by
  obtain rfl : a0 = 10 := by omega
  obtain rfl : a1 = 1 := by omega
  exact run_bool (ds := pN10x1_dead) follows_mixed plans_ok hubDeaf.sumsG_ok (pN10x1_run) pN10x1_ok (fun i => if i = 0 then 10 else if i = 1 then 1 else 0) (fun x hx => by cases hx) (rgOk_cons (⟨Int.le_refl _, Int.le_refl _⟩) (rgOk_cons (⟨Int.le_refl _, Int.le_refl _⟩) (rgOk_nil))) (fun d hd => by simp [pN10x1_dead] at hd) (xs := [.int .i64 10, .int .i64 1]) (by rfl) w

def pN10x2_dead : List (List (SB × Bool)) := []
noncomputable def pN10x2_tree : R := fillT endT []
set_option maxRecDepth 1000000 in
theorem pN10x2_run : evCall Tryz.prog plans hubDeaf.sumsG 100000 6 [.int .i64 (.lit (.ofNat 10)), .int .i64 (.lit (.ofNat 2))] (s0 [] [[]] [((.ofNat 10), (.ofNat 10)), ((.ofNat 2), (.ofNat 2))]) finK = pN10x2_tree := by kernel_rfl
set_option maxRecDepth 1000000 in
theorem pN10x2_ok : okTree pN10x2_tree true [] pN10x2_dead = true := by kernel_rfl
theorem pN10x2_any (a0 : Int) (h0 : 10 ≤ a0 ∧ a0 ≤ 10) (a1 : Int) (h1 : 2 ≤ a1 ∧ a1 ≤ 2) (w : World) : Calls Tryz.prog 6 #[.int .i64 a0, .int .i64 a1] w fun e w' => e = .returned (.bool true) ∧ Kp [] w w' := by
  obtain rfl : a0 = 10 := by omega
  obtain rfl : a1 = 2 := by omega
  exact run_bool (ds := pN10x2_dead) follows_mixed plans_ok hubDeaf.sumsG_ok (pN10x2_run) pN10x2_ok (fun i => if i = 0 then 10 else if i = 1 then 2 else 0) (fun x hx => by cases hx) (rgOk_cons (⟨Int.le_refl _, Int.le_refl _⟩) (rgOk_cons (⟨Int.le_refl _, Int.le_refl _⟩) (rgOk_nil))) (fun d hd => by simp [pN10x2_dead] at hd) (xs := [.int .i64 10, .int .i64 2]) (by rfl) w

def pN10x3_dead : List (List (SB × Bool)) := []
noncomputable def pN10x3_tree : R := fillT endT []
set_option maxRecDepth 1000000 in
theorem pN10x3_run : evCall Tryz.prog plans hubDeaf.sumsG 100000 6 [.int .i64 (.lit (.ofNat 10)), .int .i64 (.lit (.ofNat 3))] (s0 [] [[]] [((.ofNat 10), (.ofNat 10)), ((.ofNat 3), (.ofNat 3))]) finK = pN10x3_tree := by kernel_rfl
set_option maxRecDepth 1000000 in
theorem pN10x3_ok : okTree pN10x3_tree true [] pN10x3_dead = true := by kernel_rfl
theorem pN10x3_any (a0 : Int) (h0 : 10 ≤ a0 ∧ a0 ≤ 10) (a1 : Int) (h1 : 3 ≤ a1 ∧ a1 ≤ 3) (w : World) : Calls Tryz.prog 6 #[.int .i64 a0, .int .i64 a1] w fun e w' => e = .returned (.bool true) ∧ Kp [] w w' := by
  obtain rfl : a0 = 10 := by omega
  obtain rfl : a1 = 3 := by omega
  exact run_bool (ds := pN10x3_dead) follows_mixed plans_ok hubDeaf.sumsG_ok (pN10x3_run) pN10x3_ok (fun i => if i = 0 then 10 else if i = 1 then 3 else 0) (fun x hx => by cases hx) (rgOk_cons (⟨Int.le_refl _, Int.le_refl _⟩) (rgOk_cons (⟨Int.le_refl _, Int.le_refl _⟩) (rgOk_nil))) (fun d hd => by simp [pN10x3_dead] at hd) (xs := [.int .i64 10, .int .i64 3]) (by rfl) w

def pN10x4_dead : List (List (SB × Bool)) := []
noncomputable def pN10x4_tree : R := fillT endT []
set_option maxRecDepth 1000000 in
theorem pN10x4_run : evCall Tryz.prog plans hubDeaf.sumsG 100000 6 [.int .i64 (.lit (.ofNat 10)), .int .i64 (.lit (.ofNat 4))] (s0 [] [[]] [((.ofNat 10), (.ofNat 10)), ((.ofNat 4), (.ofNat 4))]) finK = pN10x4_tree := by kernel_rfl
set_option maxRecDepth 1000000 in
theorem pN10x4_ok : okTree pN10x4_tree true [] pN10x4_dead = true := by kernel_rfl
theorem pN10x4_any (a0 : Int) (h0 : 10 ≤ a0 ∧ a0 ≤ 10) (a1 : Int) (h1 : 4 ≤ a1 ∧ a1 ≤ 4) (w : World) : Calls Tryz.prog 6 #[.int .i64 a0, .int .i64 a1] w fun e w' => e = .returned (.bool true) ∧ Kp [] w w' := by
  obtain rfl : a0 = 10 := by omega
  obtain rfl : a1 = 4 := by omega
  exact run_bool (ds := pN10x4_dead) follows_mixed plans_ok hubDeaf.sumsG_ok (pN10x4_run) pN10x4_ok (fun i => if i = 0 then 10 else if i = 1 then 4 else 0) (fun x hx => by cases hx) (rgOk_cons (⟨Int.le_refl _, Int.le_refl _⟩) (rgOk_cons (⟨Int.le_refl _, Int.le_refl _⟩) (rgOk_nil))) (fun d hd => by simp [pN10x4_dead] at hd) (xs := [.int .i64 10, .int .i64 4]) (by rfl) w

def pN10x5_dead : List (List (SB × Bool)) := []
noncomputable def pN10x5_tree : R := fillT endT []
set_option maxRecDepth 1000000 in
theorem pN10x5_run : evCall Tryz.prog plans hubDeaf.sumsG 100000 6 [.int .i64 (.lit (.ofNat 10)), .int .i64 (.lit (.ofNat 5))] (s0 [] [[]] [((.ofNat 10), (.ofNat 10)), ((.ofNat 5), (.ofNat 5))]) finK = pN10x5_tree := by kernel_rfl
set_option maxRecDepth 1000000 in
theorem pN10x5_ok : okTree pN10x5_tree true [] pN10x5_dead = true := by kernel_rfl
theorem pN10x5_any (a0 : Int) (h0 : 10 ≤ a0 ∧ a0 ≤ 10) (a1 : Int) (h1 : 5 ≤ a1 ∧ a1 ≤ 5) (w : World) : Calls Tryz.prog 6 #[.int .i64 a0, .int .i64 a1] w fun e w' => e = .returned (.bool true) ∧ Kp [] w w' := by
  obtain rfl : a0 = 10 := by omega
  obtain rfl : a1 = 5 := by omega
  exact run_bool (ds := pN10x5_dead) follows_mixed plans_ok hubDeaf.sumsG_ok (pN10x5_run) pN10x5_ok (fun i => if i = 0 then 10 else if i = 1 then 5 else 0) (fun x hx => by cases hx) (rgOk_cons (⟨Int.le_refl _, Int.le_refl _⟩) (rgOk_cons (⟨Int.le_refl _, Int.le_refl _⟩) (rgOk_nil))) (fun d hd => by simp [pN10x5_dead] at hd) (xs := [.int .i64 10, .int .i64 5]) (by rfl) w

def pN10x6_dead : List (List (SB × Bool)) := []
noncomputable def pN10x6_tree : R := fillT endT []
set_option maxRecDepth 1000000 in
theorem pN10x6_run : evCall Tryz.prog plans hubDeaf.sumsG 100000 6 [.int .i64 (.lit (.ofNat 10)), .int .i64 (.lit (.ofNat 6))] (s0 [] [[]] [((.ofNat 10), (.ofNat 10)), ((.ofNat 6), (.ofNat 6))]) finK = pN10x6_tree := by kernel_rfl
set_option maxRecDepth 1000000 in
theorem pN10x6_ok : okTree pN10x6_tree true [] pN10x6_dead = true := by kernel_rfl
theorem pN10x6_any (a0 : Int) (h0 : 10 ≤ a0 ∧ a0 ≤ 10) (a1 : Int) (h1 : 6 ≤ a1 ∧ a1 ≤ 6) (w : World) : Calls Tryz.prog 6 #[.int .i64 a0, .int .i64 a1] w fun e w' => e = .returned (.bool true) ∧ Kp [] w w' := by
  obtain rfl : a0 = 10 := by omega
  obtain rfl : a1 = 6 := by omega
  exact run_bool (ds := pN10x6_dead) follows_mixed plans_ok hubDeaf.sumsG_ok (pN10x6_run) pN10x6_ok (fun i => if i = 0 then 10 else if i = 1 then 6 else 0) (fun x hx => by cases hx) (rgOk_cons (⟨Int.le_refl _, Int.le_refl _⟩) (rgOk_cons (⟨Int.le_refl _, Int.le_refl _⟩) (rgOk_nil))) (fun d hd => by simp [pN10x6_dead] at hd) (xs := [.int .i64 10, .int .i64 6]) (by rfl) w

def pN10x7_dead : List (List (SB × Bool)) := []
noncomputable def pN10x7_tree : R := fillT endT []
set_option maxRecDepth 1000000 in
theorem pN10x7_run : evCall Tryz.prog plans hubDeaf.sumsG 100000 6 [.int .i64 (.lit (.ofNat 10)), .int .i64 (.lit (.ofNat 7))] (s0 [] [[]] [((.ofNat 10), (.ofNat 10)), ((.ofNat 7), (.ofNat 7))]) finK = pN10x7_tree := by kernel_rfl
set_option maxRecDepth 1000000 in
theorem pN10x7_ok : okTree pN10x7_tree true [] pN10x7_dead = true := by kernel_rfl
theorem pN10x7_any (a0 : Int) (h0 : 10 ≤ a0 ∧ a0 ≤ 10) (a1 : Int) (h1 : 7 ≤ a1 ∧ a1 ≤ 7) (w : World) : Calls Tryz.prog 6 #[.int .i64 a0, .int .i64 a1] w fun e w' => e = .returned (.bool true) ∧ Kp [] w w' := by
  obtain rfl : a0 = 10 := by omega
  obtain rfl : a1 = 7 := by omega
  exact run_bool (ds := pN10x7_dead) follows_mixed plans_ok hubDeaf.sumsG_ok (pN10x7_run) pN10x7_ok (fun i => if i = 0 then 10 else if i = 1 then 7 else 0) (fun x hx => by cases hx) (rgOk_cons (⟨Int.le_refl _, Int.le_refl _⟩) (rgOk_cons (⟨Int.le_refl _, Int.le_refl _⟩) (rgOk_nil))) (fun d hd => by simp [pN10x7_dead] at hd) (xs := [.int .i64 10, .int .i64 7]) (by rfl) w

def pN10x8_dead : List (List (SB × Bool)) := []
noncomputable def pN10x8_tree : R := fillT endT []
set_option maxRecDepth 1000000 in
theorem pN10x8_run : evCall Tryz.prog plans hubDeaf.sumsG 100000 6 [.int .i64 (.lit (.ofNat 10)), .int .i64 (.lit (.ofNat 8))] (s0 [] [[]] [((.ofNat 10), (.ofNat 10)), ((.ofNat 8), (.ofNat 8))]) finK = pN10x8_tree := by kernel_rfl
set_option maxRecDepth 1000000 in
theorem pN10x8_ok : okTree pN10x8_tree true [] pN10x8_dead = true := by kernel_rfl
theorem pN10x8_any (a0 : Int) (h0 : 10 ≤ a0 ∧ a0 ≤ 10) (a1 : Int) (h1 : 8 ≤ a1 ∧ a1 ≤ 8) (w : World) : Calls Tryz.prog 6 #[.int .i64 a0, .int .i64 a1] w fun e w' => e = .returned (.bool true) ∧ Kp [] w w' := by
  obtain rfl : a0 = 10 := by omega
  obtain rfl : a1 = 8 := by omega
  exact run_bool (ds := pN10x8_dead) follows_mixed plans_ok hubDeaf.sumsG_ok (pN10x8_run) pN10x8_ok (fun i => if i = 0 then 10 else if i = 1 then 8 else 0) (fun x hx => by cases hx) (rgOk_cons (⟨Int.le_refl _, Int.le_refl _⟩) (rgOk_cons (⟨Int.le_refl _, Int.le_refl _⟩) (rgOk_nil))) (fun d hd => by simp [pN10x8_dead] at hd) (xs := [.int .i64 10, .int .i64 8]) (by rfl) w

end Go.Proofs.YtlmpmmcefdhgmaaGreat.hubDeaf

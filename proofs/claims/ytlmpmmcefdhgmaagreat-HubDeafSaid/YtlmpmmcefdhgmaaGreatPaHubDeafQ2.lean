/-
  HubDeaf: runs, N10x9, N10x10, N11x0, N11x1, N11x2, N11x3, N11x4, N11x5, N11x6, N11x7, N11x8, N11x9, N11x10, N11x11, N12x0, N12x1, N12x2, N12x3, N12x4, N12x5, N12x6, N12x7, N12x8, N12x9, N12x10, N12x11, N12x12, N13x0, N13x1, N13x2, N13x3, N13x4.
-/
import Derived.Test.YtlmpmmcefdhgmaaGreatSgDS
import Derived.Test.YtlmpmmcefdhgmaaGreatRs
import Derived.Test.YtlmpmmcefdhgmaaGreatPlsOk
set_option linter.unusedVariables false
set_option linter.unusedSimpArgs false
namespace Go.Proofs.YtlmpmmcefdhgmaaGreat.hubDeaf
open Go

def pN10x9_dead : List (List (SB × Bool)) := []
noncomputable def pN10x9_tree : R := fillT endT []
set_option maxRecDepth 1000000 in
theorem pN10x9_run : evCall Tryz.prog plans hubDeaf.sumsG 100000 6 [.int .i64 (.lit (.ofNat 10)), .int .i64 (.lit (.ofNat 9))] (s0 [] [[]] [((.ofNat 10), (.ofNat 10)), ((.ofNat 9), (.ofNat 9))]) finK = pN10x9_tree := by kernel_rfl
set_option maxRecDepth 1000000 in
theorem pN10x9_ok : okTree pN10x9_tree true [] pN10x9_dead = true := by kernel_rfl
theorem pN10x9_any (a0 : Int) (h0 : 10 ≤ a0 ∧ a0 ≤ 10) (a1 : Int) (h1 : 9 ≤ a1 ∧ a1 ≤ 9) (w : World) : Calls Tryz.prog 6 #[.int .i64 a0, .int .i64 a1] w fun e w' => e = .returned (.bool true) ∧ Kp [] w w' := by
  obtain rfl : a0 = 10 := by omega
  obtain rfl : a1 = 9 := by omega
  exact run_bool (ds := pN10x9_dead) follows_mixed plans_ok hubDeaf.sumsG_ok (pN10x9_run) pN10x9_ok (fun i => if i = 0 then 10 else if i = 1 then 9 else 0) (fun x hx => by cases hx) (rgOk_cons (⟨Int.le_refl _, Int.le_refl _⟩) (rgOk_cons (⟨Int.le_refl _, Int.le_refl _⟩) (rgOk_nil))) (fun d hd => by simp [pN10x9_dead] at hd) (xs := [.int .i64 10, .int .i64 9]) (by rfl) w

def pN10x10_dead : List (List (SB × Bool)) := []
noncomputable def pN10x10_tree : R := fillT endT []
set_option maxRecDepth 1000000 in
theorem pN10x10_run : evCall Tryz.prog plans hubDeaf.sumsG 100000 6 [.int .i64 (.lit (.ofNat 10)), .int .i64 (.lit (.ofNat 10))] (s0 [] [[]] [((.ofNat 10), (.ofNat 10)), ((.ofNat 10), (.ofNat 10))]) finK = pN10x10_tree := by kernel_rfl
set_option maxRecDepth 1000000 in
theorem pN10x10_ok : okTree pN10x10_tree true [] pN10x10_dead = true := by kernel_rfl
theorem pN10x10_any (a0 : Int) (h0 : 10 ≤ a0 ∧ a0 ≤ 10) (a1 : Int) (h1 : 10 ≤ a1 ∧ a1 ≤ 10) (w : World) : Calls Tryz.prog 6 #[.int .i64 a0, .int .i64 a1] w fun e w' => e = .returned (.bool true) ∧ Kp [] w w' := by
  obtain rfl : a0 = 10 := by omega
  obtain rfl : a1 = 10 := by omega
  exact run_bool (ds := pN10x10_dead) follows_mixed plans_ok hubDeaf.sumsG_ok (pN10x10_run) pN10x10_ok (fun i => if i = 0 then 10 else if i = 1 then 10 else 0) (fun x hx => by cases hx) (rgOk_cons (⟨Int.le_refl _, Int.le_refl _⟩) (rgOk_cons (⟨Int.le_refl _, Int.le_refl _⟩) (rgOk_nil))) (fun d hd => by simp [pN10x10_dead] at hd) (xs := [.int .i64 10, .int .i64 10]) (by rfl) w

def pN11x0_dead : List (List (SB × Bool)) := []
noncomputable def pN11x0_tree : R := fillT endT []
set_option maxRecDepth 1000000 in
theorem pN11x0_run : evCall Tryz.prog plans hubDeaf.sumsG 100000 6 [.int .i64 (.lit (.ofNat 11)), .int .i64 (.lit (.ofNat 0))] (s0 [] [[]] [((.ofNat 11), (.ofNat 11)), ((.ofNat 0), (.ofNat 0))]) finK = pN11x0_tree := by kernel_rfl
set_option maxRecDepth 1000000 in
theorem pN11x0_ok : okTree pN11x0_tree true [] pN11x0_dead = true := by kernel_rfl
theorem pN11x0_any (a0 : Int) (h0 : 11 ≤ a0 ∧ a0 ≤ 11) (a1 : Int) (h1 : 0 ≤ a1 ∧ a1 ≤ 0) (w : World) : Calls Tryz.prog 6 #[.int .i64 a0, .int .i64 a1] w fun e w' => e = .returned (.bool true) ∧ Kp [] w w' := by
  obtain rfl : a0 = 11 := by omega
  obtain rfl : a1 = 0 := by omega
  exact run_bool (ds := pN11x0_dead) follows_mixed plans_ok hubDeaf.sumsG_ok (pN11x0_run) pN11x0_ok (fun i => if i = 0 then 11 else if i = 1 then 0 else 0) (fun x hx => by cases hx) (rgOk_cons (⟨Int.le_refl _, Int.le_refl _⟩) (rgOk_cons (⟨Int.le_refl _, Int.le_refl _⟩) (rgOk_nil))) (fun d hd => by simp [pN11x0_dead] at hd) (xs := [.int .i64 11, .int .i64 0]) (by rfl) w

def pN11x1_dead : List (List (SB × Bool)) := []
noncomputable def pN11x1_tree : R := fillT endT []
set_option maxRecDepth 1000000 in
theorem pN11x1_run : evCall Tryz.prog plans hubDeaf.sumsG 100000 6 [.int .i64 (.lit (.ofNat 11)), .int .i64 (.lit (.ofNat 1))] (s0 [] [[]] [((.ofNat 11), (.ofNat 11)), ((.ofNat 1), (.ofNat 1))]) finK = pN11x1_tree := by kernel_rfl
set_option maxRecDepth 1000000 in
theorem pN11x1_ok : okTree pN11x1_tree true [] pN11x1_dead = true := by kernel_rfl
theorem pN11x1_any (a0 : Int) (h0 : 11 ≤ a0 ∧ a0 ≤ 11) (a1 : Int) (h1 : 1 ≤ a1 ∧ a1 ≤ 1) (w : World) : Calls Tryz.prog 6 #[.int .i64 a0, .int .i64 a1] w fun e w' => e = .returned (.bool true) ∧ Kp [] w w' := by
  obtain rfl : a0 = 11 := by omega
  obtain rfl : a1 = 1 := by omega
  exact run_bool (ds := pN11x1_dead) follows_mixed plans_ok hubDeaf.sumsG_ok (pN11x1_run) pN11x1_ok (fun i => if i = 0 then 11 else if i = 1 then 1 else 0) (fun x hx => by cases hx) (rgOk_cons (⟨Int.le_refl _, Int.le_refl _⟩) (rgOk_cons (⟨Int.le_refl _, Int.le_refl _⟩) (rgOk_nil))) (fun d hd => by simp [pN11x1_dead] at hd) (xs := [.int .i64 11, .int .i64 1]) (by rfl) w

def pN11x2_dead : List (List (SB × Bool)) := []
noncomputable def pN11x2_tree : R := fillT endT []
set_option maxRecDepth 1000000 in
theorem pN11x2_run : evCall Tryz.prog plans hubDeaf.sumsG 100000 6 [.int .i64 (.lit (.ofNat 11)), .int .i64 (.lit (.ofNat 2))] (s0 [] [[]] [((.ofNat 11), (.ofNat 11)), ((.ofNat 2), (.ofNat 2))]) finK = pN11x2_tree := by kernel_rfl
set_option maxRecDepth 1000000 in
theorem pN11x2_ok : okTree pN11x2_tree true [] pN11x2_dead = true := by kernel_rfl
theorem pN11x2_any (a0 : Int) (h0 : 11 ≤ a0 ∧ a0 ≤ 11) (a1 : Int) (h1 : 2 ≤ a1 ∧ a1 ≤ 2) (w : World) : Calls Tryz.prog 6 #[.int .i64 a0, .int .i64 a1] w fun e w' => e = .returned (.bool true) ∧ Kp [] w w' := by
  obtain rfl : a0 = 11 := by omega
  obtain rfl : a1 = 2 := by omega
  exact run_bool (ds := pN11x2_dead) follows_mixed plans_ok hubDeaf.sumsG_ok (pN11x2_run) pN11x2_ok (fun i => if i = 0 then 11 else if i = 1 then 2 else 0) (fun x hx => by cases hx) (rgOk_cons (⟨Int.le_refl _, Int.le_refl _⟩) (rgOk_cons (⟨Int.le_refl _, Int.le_refl _⟩) (rgOk_nil))) (fun d hd => by simp [pN11x2_dead] at hd) (xs := [.int .i64 11, .int .i64 2]) (by rfl) w

def pN11x3_dead : List (List (SB × Bool)) := []
noncomputable def pN11x3_tree : R := fillT endT []
set_option maxRecDepth 1000000 in
theorem pN11x3_run : evCall Tryz.prog plans hubDeaf.sumsG 100000 6 [.int .i64 (.lit (.ofNat 11)), .int .i64 (.lit (.ofNat 3))] (s0 [] [[]] [((.ofNat 11), (.ofNat 11)), ((.ofNat 3), (.ofNat 3))]) finK = pN11x3_tree := by kernel_rfl
set_option maxRecDepth 1000000 in
theorem pN11x3_ok : okTree pN11x3_tree true [] pN11x3_dead = true := by kernel_rfl
theorem pN11x3_any (a0 : Int) (h0 : 11 ≤ a0 ∧ a0 ≤ 11) (a1 : Int) (h1 : 3 ≤ a1 ∧ a1 ≤ 3) (w : World) : Calls Tryz.prog 6 #[.int .i64 a0, .int .i64 a1] w fun e w' => e = .returned (.bool true) ∧ Kp [] w w' := by
  obtain rfl : a0 = 11 := by omega
  obtain rfl : a1 = 3 := by omega
  exact run_bool (ds := pN11x3_dead) follows_mixed plans_ok hubDeaf.sumsG_ok (pN11x3_run) pN11x3_ok (fun i => if i = 0 then 11 else if i = 1 then 3 else 0) (fun x hx => by cases hx) (rgOk_cons (⟨Int.le_refl _, Int.le_refl _⟩) (rgOk_cons (⟨Int.le_refl _, Int.le_refl _⟩) (rgOk_nil))) (fun d hd => by simp [pN11x3_dead] at hd) (xs := [.int .i64 11, .int .i64 3]) (by rfl) w

def pN11x4_dead : List (List (SB × Bool)) := []
noncomputable def pN11x4_tree : R := fillT endT []
set_option maxRecDepth 1000000 in
theorem pN11x4_run : evCall Tryz.prog plans hubDeaf.sumsG 100000 6 [.int .i64 (.lit (.ofNat 11)), .int .i64 (.lit (.ofNat 4))] (s0 [] [[]] [((.ofNat 11), (.ofNat 11)), ((.ofNat 4), (.ofNat 4))]) finK = pN11x4_tree := by kernel_rfl
set_option maxRecDepth 1000000 in
theorem pN11x4_ok : okTree pN11x4_tree true [] pN11x4_dead = true := by kernel_rfl
theorem pN11x4_any (a0 : Int) (h0 : 11 ≤ a0 ∧ a0 ≤ 11) (a1 : Int) (h1 : 4 ≤ a1 ∧ a1 ≤ 4) (w : World) : Calls Tryz.prog 6 #[.int .i64 a0, .int .i64 a1] w fun e w' => e = .returned (.bool true) ∧ Kp [] w w' := by
  obtain rfl : a0 = 11 := by omega
  obtain rfl : a1 = 4 := by omega
  exact run_bool (ds := pN11x4_dead) follows_mixed plans_ok hubDeaf.sumsG_ok (pN11x4_run) pN11x4_ok (fun i => if i = 0 then 11 else if i = 1 then 4 else 0) (fun x hx => by cases hx) (rgOk_cons (⟨Int.le_refl _, Int.le_refl _⟩) (rgOk_cons (⟨Int.le_refl _, Int.le_refl _⟩) (rgOk_nil))) (fun d hd => by simp [pN11x4_dead] at hd) (xs := [.int .i64 11, .int .i64 4]) (by rfl) w

def pN11x5_dead : List (List (SB × Bool)) := []
noncomputable def pN11x5_tree : R := fillT endT []
set_option maxRecDepth 1000000 in
theorem pN11x5_run : evCall Tryz.prog plans hubDeaf.sumsG 100000 6 [.int .i64 (.lit (.ofNat 11)), .int .i64 (.lit (.ofNat 5))] (s0 [] [[]] [((.ofNat 11), (.ofNat 11)), ((.ofNat 5), (.ofNat 5))]) finK = pN11x5_tree := by kernel_rfl
set_option maxRecDepth 1000000 in
theorem pN11x5_ok : okTree pN11x5_tree true [] pN11x5_dead = true := by kernel_rfl
theorem pN11x5_any (a0 : Int) (h0 : 11 ≤ a0 ∧ a0 ≤ 11) (a1 : Int) (h1 : 5 ≤ a1 ∧ a1 ≤ 5) (w : World) : Calls Tryz.prog 6 #[.int .i64 a0, .int .i64 a1] w fun e w' => e = .returned (.bool true) ∧ Kp [] w w' := by
  obtain rfl : a0 = 11 := by omega
  obtain rfl : a1 = 5 := by omega
  exact run_bool (ds := pN11x5_dead) follows_mixed plans_ok hubDeaf.sumsG_ok (pN11x5_run) pN11x5_ok (fun i => if i = 0 then 11 else if i = 1 then 5 else 0) (fun x hx => by cases hx) (rgOk_cons (⟨Int.le_refl _, Int.le_refl _⟩) (rgOk_cons (⟨Int.le_refl _, Int.le_refl _⟩) (rgOk_nil))) (fun d hd => by simp [pN11x5_dead] at hd) (xs := [.int .i64 11, .int .i64 5]) (by rfl) w

def pN11x6_dead : List (List (SB × Bool)) := []
noncomputable def pN11x6_tree : R := fillT endT []
set_option maxRecDepth 1000000 in
theorem pN11x6_run : evCall Tryz.prog plans hubDeaf.sumsG 100000 6 [.int .i64 (.lit (.ofNat 11)), .int .i64 (.lit (.ofNat 6))] (s0 [] [[]] [((.ofNat 11), (.ofNat 11)), ((.ofNat 6), (.ofNat 6))]) finK = pN11x6_tree := by kernel_rfl
set_option maxRecDepth 1000000 in
theorem pN11x6_ok : okTree pN11x6_tree true [] pN11x6_dead = true := by kernel_rfl
theorem pN11x6_any (a0 : Int) (h0 : 11 ≤ a0 ∧ a0 ≤ 11) (a1 : Int) (h1 : 6 ≤ a1 ∧ a1 ≤ 6) (w : World) : Calls Tryz.prog 6 #[.int .i64 a0, .int .i64 a1] w fun e w' => e = .returned (.bool true) ∧ Kp [] w w' := by
  obtain rfl : a0 = 11 := by omega
  obtain rfl : a1 = 6 := by omega
  exact run_bool (ds := pN11x6_dead) follows_mixed plans_ok hubDeaf.sumsG_ok (pN11x6_run) pN11x6_ok (fun i => if i = 0 then 11 else if i = 1 then 6 else 0) (fun x hx => by cases hx) (rgOk_cons (⟨Int.le_refl _, Int.le_refl _⟩) (rgOk_cons (⟨Int.le_refl _, Int.le_refl _⟩) (rgOk_nil))) (fun d hd => by simp [pN11x6_dead] at hd) (xs := [.int .i64 11, .int .i64 6]) (by rfl) w

def pN11x7_dead : List (List (SB × Bool)) := []
noncomputable def pN11x7_tree : R := fillT endT []
set_option maxRecDepth 1000000 in
theorem pN11x7_run : evCall Tryz.prog plans hubDeaf.sumsG 100000 6 [.int .i64 (.lit (.ofNat 11)), .int .i64 (.lit (.ofNat 7))] (s0 [] [[]] [((.ofNat 11), (.ofNat 11)), ((.ofNat 7), (.ofNat 7))]) finK = pN11x7_tree := by kernel_rfl
set_option maxRecDepth 1000000 in
theorem pN11x7_ok : okTree pN11x7_tree true [] pN11x7_dead = true := by kernel_rfl
theorem pN11x7_any (a0 : Int) (h0 : 11 ≤ a0 ∧ a0 ≤ 11) (a1 : Int) (h1 : 7 ≤ a1 ∧ a1 ≤ 7) (w : World) : Calls Tryz.prog 6 #[.int .i64 a0, .int .i64 a1] w fun e w' => e = .returned (.bool true) ∧ Kp [] w w' := by
  obtain rfl : a0 = 11 := by omega
  obtain rfl : a1 = 7 := by omega
  exact run_bool (ds := pN11x7_dead) follows_mixed plans_ok hubDeaf.sumsG_ok (pN11x7_run) pN11x7_ok (fun i => if i = 0 then 11 else if i = 1 then 7 else 0) (fun x hx => by cases hx) (rgOk_cons (⟨Int.le_refl _, Int.le_refl _⟩) (rgOk_cons (⟨Int.le_refl _, Int.le_refl _⟩) (rgOk_nil))) (fun d hd => by simp [pN11x7_dead] at hd) (xs := [.int .i64 11, .int .i64 7]) (by rfl) w

def pN11x8_dead : List (List (SB × Bool)) := []
noncomputable def pN11x8_tree : R := fillT endT []
set_option maxRecDepth 1000000 in
theorem pN11x8_run : evCall Tryz.prog plans hubDeaf.sumsG 100000 6 [.int .i64 (.lit (.ofNat 11)), .int .i64 (.lit (.ofNat 8))] (s0 [] [[]] [((.ofNat 11), (.ofNat 11)), ((.ofNat 8), (.ofNat 8))]) finK = pN11x8_tree := by kernel_rfl
set_option maxRecDepth 1000000 in
theorem pN11x8_ok : okTree pN11x8_tree true [] pN11x8_dead = true := by kernel_rfl
theorem pN11x8_any (a0 : Int) (h0 : 11 ≤ a0 ∧ a0 ≤ 11) (a1 : Int) (h1 : 8 ≤ a1 ∧ a1 ≤ 8) (w : World) : Calls Tryz.prog 6 #[.int .i64 a0, .int .i64 a1] w fun e w' => e = .returned (.bool true) ∧ Kp [] w w' := by
  obtain rfl : a0 = 11 := by omega
  obtain rfl : a1 = 8 := by omega
  exact run_bool (ds := pN11x8_dead) follows_mixed plans_ok hubDeaf.sumsG_ok (pN11x8_run) pN11x8_ok (fun i => if i = 0 then 11 else if i = 1 then 8 else 0) (fun x hx => by cases hx) (rgOk_cons (⟨Int.le_refl _, Int.le_refl _⟩) (rgOk_cons (⟨Int.le_refl _, Int.le_refl _⟩) (rgOk_nil))) (fun d hd => by simp [pN11x8_dead] at hd) (xs := [.int .i64 11, .int .i64 8]) (by rfl) w

def pN11x9_dead : List (List (SB × Bool)) := []
noncomputable def pN11x9_tree : R := fillT endT []
set_option maxRecDepth 1000000 in
theorem pN11x9_run : evCall Tryz.prog plans hubDeaf.sumsG 100000 6 [.int .i64 (.lit (.ofNat 11)), .int .i64 (.lit (.ofNat 9))] (s0 [] [[]] [((.ofNat 11), (.ofNat 11)), ((.ofNat 9), (.ofNat 9))]) finK = pN11x9_tree := by kernel_rfl
set_option maxRecDepth 1000000 in
theorem pN11x9_ok : okTree pN11x9_tree true [] pN11x9_dead = true := by kernel_rfl
theorem pN11x9_any (a0 : Int) (h0 : 11 ≤ a0 ∧ a0 ≤ 11) (a1 : Int) (h1 : 9 ≤ a1 ∧ a1 ≤ 9) (w : World) : Calls Tryz.prog 6 #[.int .i64 a0, .int .i64 a1] w fun e w' => e = .returned (.bool true) ∧ Kp [] w w' := by
  obtain rfl : a0 = 11 := by omega
  obtain rfl : a1 = 9 := by omega
  exact run_bool (ds := pN11x9_dead) follows_mixed plans_ok hubDeaf.sumsG_ok (pN11x9_run) pN11x9_ok (fun i => if i = 0 then 11 else if i = 1 then 9 else 0) (fun x hx => by cases hx) (rgOk_cons (⟨Int.le_refl _, Int.le_refl _⟩) (rgOk_cons (⟨Int.le_refl _, Int.le_refl _⟩) (rgOk_nil))) (fun d hd => by simp [pN11x9_dead] at hd) (xs := [.int .i64 11, .int .i64 9]) (by rfl) w

def pN11x10_dead : List (List (SB × Bool)) := []
noncomputable def pN11x10_tree : R := fillT endT []
set_option maxRecDepth 1000000 in
theorem pN11x10_run : evCall Tryz.prog plans hubDeaf.sumsG 100000 6 [.int .i64 (.lit (.ofNat 11)), .int .i64 (.lit (.ofNat 10))] (s0 [] [[]] [((.ofNat 11), (.ofNat 11)), ((.ofNat 10), (.ofNat 10))]) finK = pN11x10_tree := by kernel_rfl
set_option maxRecDepth 1000000 in
theorem pN11x10_ok : okTree pN11x10_tree true [] pN11x10_dead = true := by kernel_rfl
theorem pN11x10_any (a0 : Int) (h0 : 11 ≤ a0 ∧ a0 ≤ 11) (a1 : Int) (h1 : 10 ≤ a1 ∧ a1 ≤ 10) (w : World) : Calls Tryz.prog 6 #[.int .i64 a0, .int .i64 a1] w fun e w' => e = .returned (.bool true) ∧ Kp [] w w' := by
  obtain rfl : a0 = 11 := by omega
  obtain rfl : a1 = 10 := by omega
  exact run_bool (ds := pN11x10_dead) follows_mixed plans_ok hubDeaf.sumsG_ok (pN11x10_run) pN11x10_ok (fun i => if i = 0 then 11 else if i = 1 then 10 else 0) (fun x hx => by cases hx) (rgOk_cons (⟨Int.le_refl _, Int.le_refl _⟩) (rgOk_cons (⟨Int.le_refl _, Int.le_refl _⟩) (rgOk_nil))) (fun d hd => by simp [pN11x10_dead] at hd) (xs := [.int .i64 11, .int .i64 10]) (by rfl) w

def pN11x11_dead : List (List (SB × Bool)) := []
noncomputable def pN11x11_tree : R := fillT endT []
set_option maxRecDepth 1000000 in
theorem pN11x11_run : evCall Tryz.prog plans hubDeaf.sumsG 100000 6 [.int .i64 (.lit (.ofNat 11)), .int .i64 (.lit (.ofNat 11))] (s0 [] [[]] [((.ofNat 11), (.ofNat 11)), ((.ofNat 11), (.ofNat 11))]) finK = pN11x11_tree := by kernel_rfl
set_option maxRecDepth 1000000 in
theorem pN11x11_ok : okTree pN11x11_tree true [] pN11x11_dead = true := by kernel_rfl
theorem pN11x11_any (a0 : Int) (h0 : 11 ≤ a0 ∧ a0 ≤ 11) (a1 : Int) (h1 : 11 ≤ a1 ∧ a1 ≤ 11) (w : World) : Calls Tryz.prog 6 #[.int .i64 a0, .int .i64 a1] w fun e w' => e = .returned (.bool true) ∧ Kp [] w w' := by
  obtain rfl : a0 = 11 := by omega
  obtain rfl : a1 = 11 := by omega
  exact run_bool (ds := pN11x11_dead) follows_mixed plans_ok hubDeaf.sumsG_ok (pN11x11_run) pN11x11_ok (fun i => if i = 0 then 11 else if i = 1 then 11 else 0) (fun x hx => by cases hx) (rgOk_cons (⟨Int.le_refl _, Int.le_refl _⟩) (rgOk_cons (⟨Int.le_refl _, Int.le_refl _⟩) (rgOk_nil))) (fun d hd => by simp [pN11x11_dead] at hd) (xs := [.int .i64 11, .int .i64 11]) (by rfl) w

def pN12x0_dead : List (List (SB × Bool)) := []
noncomputable def pN12x0_tree : R := fillT endT []
set_option maxRecDepth 1000000 in
theorem pN12x0_run : evCall Tryz.prog plans hubDeaf.sumsG 100000 6 [.int .i64 (.lit (.ofNat 12)), .int .i64 (.lit (.ofNat 0))] (s0 [] [[]] [((.ofNat 12), (.ofNat 12)), ((.ofNat 0), (.ofNat 0))]) finK = pN12x0_tree := by kernel_rfl
set_option maxRecDepth 1000000 in
theorem pN12x0_ok : okTree pN12x0_tree true [] pN12x0_dead = true := by kernel_rfl
theorem pN12x0_any (a0 : Int) (h0 : 12 ≤ a0 ∧ a0 ≤ 12) (a1 : Int) (h1 : 0 ≤ a1 ∧ a1 ≤ 0) (w : World) : Calls Tryz.prog 6 #[.int .i64 a0, .int .i64 a1] w fun e w' => e = .returned (.bool true) ∧ Kp [] w w' := by
  obtain rfl : a0 = 12 := by omega
  obtain rfl : a1 = 0 := by omega
  exact run_bool (ds := pN12x0_dead) follows_mixed plans_ok hubDeaf.sumsG_ok (pN12x0_run) pN12x0_ok (fun i => if i = 0 then 12 else if i = 1 then 0 else 0) (fun x hx => by cases hx) (rgOk_cons (⟨Int.le_refl _, Int.le_refl _⟩) (rgOk_cons (⟨Int.le_refl _, Int.le_refl _⟩) (rgOk_nil))) (fun d hd => by simp [pN12x0_dead] at hd) (xs := [.int .i64 12, .int .i64 0]) (by rfl) w

def pN12x1_dead : List (List (SB × Bool)) := []
noncomputable def pN12x1_tree : R := fillT endT []
set_option maxRecDepth 1000000 in
theorem pN12x1_run : evCall Tryz.prog plans hubDeaf.sumsG 100000 6 [.int .i64 (.lit (.ofNat 12)), .int .i64 (.lit (.ofNat 1))] (s0 [] [[]] [((.ofNat 12), (.ofNat 12)), ((.ofNat 1), (.ofNat 1))]) finK = pN12x1_tree := by kernel_rfl
set_option maxRecDepth 1000000 in
theorem pN12x1_ok : okTree pN12x1_tree true [] pN12x1_dead = true := by kernel_rfl
theorem pN12x1_any (a0 : Int) (h0 : 12 ≤ a0 ∧ a0 ≤ 12) (a1 : Int) (h1 : 1 ≤ a1 ∧ a1 ≤ 1) (w : World) : Calls Tryz.prog 6 #[.int .i64 a0, .int .i64 a1] w fun e w' => e = .returned (.bool true) ∧ Kp [] w w' := by
  obtain rfl : a0 = 12 := by omega
  obtain rfl : a1 = 1 := by omega
  exact run_bool (ds := pN12x1_dead) follows_mixed plans_ok hubDeaf.sumsG_ok (pN12x1_run) pN12x1_ok (fun i => if i = 0 then 12 else if i = 1 then 1 else 0) (fun x hx => by cases hx) (rgOk_cons (⟨Int.le_refl _, Int.le_refl _⟩) (rgOk_cons (⟨Int.le_refl _, Int.le_refl _⟩) (rgOk_nil))) (fun d hd => by simp [pN12x1_dead] at hd) (xs := [.int .i64 12, .int .i64 1]) (by rfl) w

def pN12x2_dead : List (List (SB × Bool)) := []
noncomputable def pN12x2_tree : R := fillT endT []
set_option maxRecDepth 1000000 in
theorem pN12x2_run : evCall Tryz.prog plans hubDeaf.sumsG 100000 6 [.int .i64 (.lit (.ofNat 12)), .int .i64 (.lit (.ofNat 2))] (s0 [] [[]] [((.ofNat 12), (.ofNat 12)), ((.ofNat 2), (.ofNat 2))]) finK = pN12x2_tree := by kernel_rfl
set_option maxRecDepth 1000000 in
theorem pN12x2_ok : okTree pN12x2_tree true [] pN12x2_dead = true := by kernel_rfl
theorem pN12x2_any (a0 : Int) (h0 : 12 ≤ a0 ∧ a0 ≤ 12) (a1 : Int) (h1 : 2 ≤ a1 ∧ a1 ≤ 2) (w : World) : Calls Tryz.prog 6 #[.int .i64 a0, .int .i64 a1] w fun e w' => e = .returned (.bool true) ∧ Kp [] w w' := by
  obtain rfl : a0 = 12 := by omega
  obtain rfl : a1 = 2 := by omega
  exact run_bool (ds := pN12x2_dead) follows_mixed plans_ok hubDeaf.sumsG_ok (pN12x2_run) pN12x2_ok (fun i => if i = 0 then 12 else if i = 1 then 2 else 0) (fun x hx => by cases hx) (rgOk_cons (⟨Int.le_refl _, Int.le_refl _⟩) (rgOk_cons (⟨Int.le_refl _, Int.le_refl _⟩) (rgOk_nil))) (fun d hd => by simp [pN12x2_dead] at hd) (xs := [.int .i64 12, .int .i64 2]) (by rfl) w

def pN12x3_dead : List (List (SB × Bool)) := []
noncomputable def pN12x3_tree : R := fillT endT []
set_option maxRecDepth 1000000 in
theorem pN12x3_run : evCall Tryz.prog plans hubDeaf.sumsG 100000 6 [.int .i64 (.lit (.ofNat 12)), .int .i64 (.lit (.ofNat 3))] (s0 [] [[]] [((.ofNat 12), (.ofNat 12)), ((.ofNat 3), (.ofNat 3))]) finK = pN12x3_tree := by kernel_rfl
set_option maxRecDepth 1000000 in
theorem pN12x3_ok : okTree pN12x3_tree true [] pN12x3_dead = true := by kernel_rfl
theorem pN12x3_any (a0 : Int) (h0 : 12 ≤ a0 ∧ a0 ≤ 12) (a1 : Int) (h1 : 3 ≤ a1 ∧ a1 ≤ 3) (w : World) : Calls Tryz.prog 6 #[.int .i64 a0, .int .i64 a1] w fun e w' => e = .returned (.bool true) ∧ Kp [] w w' := by
  obtain rfl : a0 = 12 := by omega
  obtain rfl : a1 = 3 := by omega
  exact run_bool (ds := pN12x3_dead) follows_mixed plans_ok hubDeaf.sumsG_ok (pN12x3_run) pN12x3_ok (fun i => if i = 0 then 12 else if i = 1 then 3 else 0) (fun x hx => by cases hx) (rgOk_cons (⟨Int.le_refl _, Int.le_refl _⟩) (rgOk_cons (⟨Int.le_refl _, Int.le_refl _⟩) (rgOk_nil))) (fun d hd => by simp [pN12x3_dead] at hd) (xs := [.int .i64 12, .int .i64 3]) (by rfl) w

def pN12x4_dead : List (List (SB × Bool)) := []
noncomputable def pN12x4_tree : R := fillT endT []
set_option maxRecDepth 1000000 in
theorem pN12x4_run : evCall Tryz.prog plans hubDeaf.sumsG 100000 6 [.int .i64 (.lit (.ofNat 12)), .int .i64 (.lit (.ofNat 4))] (s0 [] [[]] [((.ofNat 12), (.ofNat 12)), ((.ofNat 4), (.ofNat 4))]) finK = pN12x4_tree := by kernel_rfl
set_option maxRecDepth 1000000 in
theorem pN12x4_ok : okTree pN12x4_tree true [] pN12x4_dead = true := by kernel_rfl
theorem pN12x4_any (a0 : Int) (h0 : 12 ≤ a0 ∧ a0 ≤ 12) (a1 : Int) (h1 : 4 ≤ a1 ∧ a1 ≤ 4) (w : World) : Calls Tryz.prog 6 #[.int .i64 a0, .int .i64 a1] w fun e w' => e = .returned (.bool true) ∧ Kp [] w w' := by
  obtain rfl : a0 = 12 := by omega
  obtain rfl : a1 = 4 := by omega
  exact run_bool (ds := pN12x4_dead) follows_mixed plans_ok hubDeaf.sumsG_ok (pN12x4_run) pN12x4_ok (fun i => if i = 0 then 12 else if i = 1 then 4 else 0) (fun x hx => by cases hx) (rgOk_cons (⟨Int.le_refl _, Int.le_refl _⟩) (rgOk_cons (⟨Int.le_refl _, Int.le_refl _⟩) (rgOk_nil))) (fun d hd => by simp [pN12x4_dead] at hd) (xs := [.int .i64 12, .int .i64 4]) (by rfl) w

def pN12x5_dead : List (List (SB × Bool)) := []
noncomputable def pN12x5_tree : R := fillT endT []
set_option maxRecDepth 1000000 in
theorem pN12x5_run : evCall Tryz.prog plans hubDeaf.sumsG 100000 6 [.int .i64 (.lit (.ofNat 12)), .int .i64 (.lit (.ofNat 5))] (s0 [] [[]] [((.ofNat 12), (.ofNat 12)), ((.ofNat 5), (.ofNat 5))]) finK = pN12x5_tree := by kernel_rfl
set_option maxRecDepth 1000000 in
theorem pN12x5_ok : okTree pN12x5_tree true [] pN12x5_dead = true := by kernel_rfl
theorem pN12x5_any (a0 : Int) (h0 : 12 ≤ a0 ∧ a0 ≤ 12) (a1 : Int) (h1 : 5 ≤ a1 ∧ a1 ≤ 5) (w : World) : Calls Tryz.prog 6 #[.int .i64 a0, .int .i64 a1] w fun e w' => e = .returned (.bool true) ∧ Kp [] w w' := by
  obtain rfl : a0 = 12 := by omega
  obtain rfl : a1 = 5 := by omega
  exact run_bool (ds := pN12x5_dead) follows_mixed plans_ok hubDeaf.sumsG_ok (pN12x5_run) pN12x5_ok (fun i => if i = 0 then 12 else if i = 1 then 5 else 0) (fun x hx => by cases hx) (rgOk_cons (⟨Int.le_refl _, Int.le_refl _⟩) (rgOk_cons (⟨Int.le_refl _, Int.le_refl _⟩) (rgOk_nil))) (fun d hd => by simp [pN12x5_dead] at hd) (xs := [.int .i64 12, .int .i64 5]) (by rfl) w

def pN12x6_dead : List (List (SB × Bool)) := []
noncomputable def pN12x6_tree : R := fillT endT []
set_option maxRecDepth 1000000 in
theorem pN12x6_run : evCall Tryz.prog plans hubDeaf.sumsG 100000 6 [.int .i64 (.lit (.ofNat 12)), .int .i64 (.lit (.ofNat 6))] (s0 [] [[]] [((.ofNat 12), (.ofNat 12)), ((.ofNat 6), (.ofNat 6))]) finK = pN12x6_tree := by kernel_rfl
set_option maxRecDepth 1000000 in
theorem pN12x6_ok : okTree pN12x6_tree true [] pN12x6_dead = true := by kernel_rfl
theorem pN12x6_any (a0 : Int) (h0 : 12 ≤ a0 ∧ a0 ≤ 12) (a1 : Int) (h1 : 6 ≤ a1 ∧ a1 ≤ 6) (w : World) : Calls Tryz.prog 6 #[.int .i64 a0, .int .i64 a1] w fun e w' => e = .returned (.bool true) ∧ Kp [] w w' := by
  obtain rfl : a0 = 12 := by omega
  obtain rfl : a1 = 6 := by omega
  exact run_bool (ds := pN12x6_dead) follows_mixed plans_ok hubDeaf.sumsG_ok (pN12x6_run) pN12x6_ok (fun i => if i = 0 then 12 else if i = 1 then 6 else 0) (fun x hx => by cases hx) (rgOk_cons (⟨Int.le_refl _, Int.le_refl _⟩) (rgOk_cons (⟨Int.le_refl _, Int.le_refl _⟩) (rgOk_nil))) (fun d hd => by simp [pN12x6_dead] at hd) (xs := [.int .i64 12, .int .i64 6]) (by rfl) w

def pN12x7_dead : List (List (SB × Bool)) := []
noncomputable def pN12x7_tree : R := fillT endT []
set_option maxRecDepth 1000000 in
theorem pN12x7_run : evCall Tryz.prog plans hubDeaf.sumsG 100000 6 [.int .i64 (.lit (.ofNat 12)), .int .i64 (.lit (.ofNat 7))] (s0 [] [[]] [((.ofNat 12), (.ofNat 12)), ((.ofNat 7), (.ofNat 7))]) finK = pN12x7_tree := by kernel_rfl
set_option maxRecDepth 1000000 in
theorem pN12x7_ok : okTree pN12x7_tree true [] pN12x7_dead = true := by kernel_rfl
theorem pN12x7_any (a0 : Int) (h0 : 12 ≤ a0 ∧ a0 ≤ 12) (a1 : Int) (h1 : 7 ≤ a1 ∧ a1 ≤ 7) (w : World) : Calls Tryz.prog 6 #[.int .i64 a0, .int .i64 a1] w fun e w' => e = .returned (.bool true) ∧ Kp [] w w' := by
  obtain rfl : a0 = 12 := by omega
  obtain rfl : a1 = 7 := by omega
  exact run_bool (ds := pN12x7_dead) follows_mixed plans_ok hubDeaf.sumsG_ok (pN12x7_run) pN12x7_ok (fun i => if i = 0 then 12 else if i = 1 then 7 else 0) (fun x hx => by cases hx) (rgOk_cons (⟨Int.le_refl _, Int.le_refl _⟩) (rgOk_cons (⟨Int.le_refl _, Int.le_refl _⟩) (rgOk_nil))) (fun d hd => by simp [pN12x7_dead] at hd) (xs := [.int .i64 12, .int .i64 7]) (by rfl) w

def pN12x8_dead : List (List (SB × Bool)) := []
noncomputable def pN12x8_tree : R := fillT endT []
set_option maxRecDepth 1000000 in
theorem pN12x8_run : evCall Tryz.prog plans hubDeaf.sumsG 100000 6 [.int .i64 (.lit (.ofNat 12)), .int .i64 (.lit (.ofNat 8))] (s0 [] [[]] [((.ofNat 12), (.ofNat 12)), ((.ofNat 8), (.ofNat 8))]) finK = pN12x8_tree := by kernel_rfl
set_option maxRecDepth 1000000 in
theorem pN12x8_ok : okTree pN12x8_tree true [] pN12x8_dead = true := by kernel_rfl
theorem pN12x8_any (a0 : Int) (h0 : 12 ≤ a0 ∧ a0 ≤ 12) (a1 : Int) (h1 : 8 ≤ a1 ∧ a1 ≤ 8) (w : World) : Calls Tryz.prog 6 #[.int .i64 a0, .int .i64 a1] w fun e w' => e = .returned (.bool true) ∧ Kp [] w w' := by
  obtain rfl : a0 = 12 := by omega
  obtain rfl : a1 = 8 := by omega
  exact run_bool (ds := pN12x8_dead) follows_mixed plans_ok hubDeaf.sumsG_ok (pN12x8_run) pN12x8_ok (fun i => if i = 0 then 12 else if i = 1 then 8 else 0) (fun x hx => by cases hx) (rgOk_cons (⟨Int.le_refl _, Int.le_refl _⟩) (rgOk_cons (⟨Int.le_refl _, Int.le_refl _⟩) (rgOk_nil))) (fun d hd => by simp [pN12x8_dead] at hd) (xs := [.int .i64 12, .int .i64 8]) (by rfl) w

def pN12x9_dead : List (List (SB × Bool)) := []
noncomputable def pN12x9_tree : R := fillT endT []
set_option maxRecDepth 1000000 in
theorem pN12x9_run : evCall Tryz.prog plans hubDeaf.sumsG 100000 6 [.int .i64 (.lit (.ofNat 12)), .int .i64 (.lit (.ofNat 9))] (s0 [] [[]] [((.ofNat 12), (.ofNat 12)), ((.ofNat 9), (.ofNat 9))]) finK = pN12x9_tree := by kernel_rfl
set_option maxRecDepth 1000000 in
theorem pN12x9_ok : okTree pN12x9_tree true [] pN12x9_dead = true := by kernel_rfl
theorem pN12x9_any (a0 : Int) (h0 : 12 ≤ a0 ∧ a0 ≤ 12) (a1 : Int) (h1 : 9 ≤ a1 ∧ a1 ≤ 9) (w : World) : Calls Tryz.prog 6 #[.int .i64 a0, .int .i64 a1] w fun e w' => e = .returned (.bool true) ∧ Kp [] w w' := by
  obtain rfl : a0 = 12 := by omega
  obtain rfl : a1 = 9 := by omega
  exact run_bool (ds := pN12x9_dead) follows_mixed plans_ok hubDeaf.sumsG_ok (pN12x9_run) pN12x9_ok (fun i => if i = 0 then 12 else if i = 1 then 9 else 0) (fun x hx => by cases hx) (rgOk_cons (⟨Int.le_refl _, Int.le_refl _⟩) (rgOk_cons (⟨Int.le_refl _, Int.le_refl _⟩) (rgOk_nil))) (fun d hd => by simp [pN12x9_dead] at hd) (xs := [.int .i64 12, .int .i64 9]) (by rfl) w

def pN12x10_dead : List (List (SB × Bool)) := []
noncomputable def pN12x10_tree : R := fillT endT []
set_option maxRecDepth 1000000 in
theorem pN12x10_run : evCall Tryz.prog plans hubDeaf.sumsG 100000 6 [.int .i64 (.lit (.ofNat 12)), .int .i64 (.lit (.ofNat 10))] (s0 [] [[]] [((.ofNat 12), (.ofNat 12)), ((.ofNat 10), (.ofNat 10))]) finK = pN12x10_tree := by kernel_rfl
set_option maxRecDepth 1000000 in
theorem pN12x10_ok : okTree pN12x10_tree true [] pN12x10_dead = true := by kernel_rfl
theorem pN12x10_any (a0 : Int) (h0 : 12 ≤ a0 ∧ a0 ≤ 12) (a1 : Int) (h1 : 10 ≤ a1 ∧ a1 ≤ 10) (w : World) : Calls Tryz.prog 6 #[.int .i64 a0, .int .i64 a1] w fun e w' => e = .returned (.bool true) ∧ Kp [] w w' := by
  obtain rfl : a0 = 12 := by omega
  obtain rfl : a1 = 10 := by omega
  exact run_bool (ds := pN12x10_dead) follows_mixed plans_ok hubDeaf.sumsG_ok (pN12x10_run) pN12x10_ok (fun i => if i = 0 then 12 else if i = 1 then 10 else 0) (fun x hx => by cases hx) (rgOk_cons (⟨Int.le_refl _, Int.le_refl _⟩) (rgOk_cons (⟨Int.le_refl _, Int.le_refl _⟩) (rgOk_nil))) (fun d hd => by simp [pN12x10_dead] at hd) (xs := [.int .i64 12, .int .i64 10]) (by rfl) w

def pN12x11_dead : List (List (SB × Bool)) := []
noncomputable def pN12x11_tree : R := fillT endT []
set_option maxRecDepth 1000000 in
theorem pN12x11_run : evCall Tryz.prog plans hubDeaf.sumsG 100000 6 [.int .i64 (.lit (.ofNat 12)), .int .i64 (.lit (.ofNat 11))] (s0 [] [[]] [((.ofNat 12), (.ofNat 12)), ((.ofNat 11), (.ofNat 11))]) finK = pN12x11_tree := by kernel_rfl
set_option maxRecDepth 1000000 in
theorem pN12x11_ok : okTree pN12x11_tree true [] pN12x11_dead = true := by kernel_rfl
theorem pN12x11_any (a0 : Int) (h0 : 12 ≤ a0 ∧ a0 ≤ 12) (a1 : Int) (h1 : 11 ≤ a1 ∧ a1 ≤ 11) (w : World) : Calls Tryz.prog 6 #[.int .i64 a0, .int .i64 a1] w fun e w' => e = .returned (.bool true) ∧ Kp [] w w' := by
  obtain rfl : a0 = 12 := by omega
  obtain rfl : a1 = 11 := by omega
  exact run_bool (ds := pN12x11_dead) follows_mixed plans_ok hubDeaf.sumsG_ok (pN12x11_run) pN12x11_ok (fun i => if i = 0 then 12 else if i = 1 then 11 else 0) (fun x hx => by cases hx) (rgOk_cons (⟨Int.le_refl _, Int.le_refl _⟩) (rgOk_cons (⟨Int.le_refl _, Int.le_refl _⟩) (rgOk_nil))) (fun d hd => by simp [pN12x11_dead] at hd) (xs := [.int .i64 12, .int .i64 11]) (by rfl) w

def pN12x12_dead : List (List (SB × Bool)) := []
noncomputable def pN12x12_tree : R := fillT endT []
set_option maxRecDepth 1000000 in
theorem pN12x12_run : evCall Tryz.prog plans hubDeaf.sumsG 100000 6 [.int .i64 (.lit (.ofNat 12)), .int .i64 (.lit (.ofNat 12))] (s0 [] [[]] [((.ofNat 12), (.ofNat 12)), ((.ofNat 12), (.ofNat 12))]) finK = pN12x12_tree := by kernel_rfl
set_option maxRecDepth 1000000 in
theorem pN12x12_ok : okTree pN12x12_tree true [] pN12x12_dead = true := by kernel_rfl
theorem pN12x12_any (a0 : Int) (h0 : 12 ≤ a0 ∧ a0 ≤ 12) (a1 : Int) (h1 : 12 ≤ a1 ∧ a1 ≤ 12) (w : World) : Calls Tryz.prog 6 #[.int .i64 a0, .int .i64 a1] w fun e w' => e = .returned (.bool true) ∧ Kp [] w w' := by
  obtain rfl : a0 = 12 := by omega
  obtain rfl : a1 = 12 := by omega
  exact run_bool (ds := pN12x12_dead) follows_mixed plans_ok hubDeaf.sumsG_ok (pN12x12_run) pN12x12_ok (fun i => if i = 0 then 12 else if i = 1 then 12 else 0) (fun x hx => by cases hx) (rgOk_cons (⟨Int.le_refl _, Int.le_refl _⟩) (rgOk_cons (⟨Int.le_refl _, Int.le_refl _⟩) (rgOk_nil))) (fun d hd => by simp [pN12x12_dead] at hd) (xs := [.int .i64 12, .int .i64 12]) (by rfl) w

def pN13x0_dead : List (List (SB × Bool)) := []
noncomputable def pN13x0_tree : R := fillT endT []
set_option maxRecDepth 1000000 in
theorem pN13x0_run : evCall Tryz.prog plans hubDeaf.sumsG 100000 6 [.int .i64 (.lit (.ofNat 13)), .int .i64 (.lit (.ofNat 0))] (s0 [] [[]] [((.ofNat 13), (.ofNat 13)), ((.ofNat 0), (.ofNat 0))]) finK = pN13x0_tree := by kernel_rfl
set_option maxRecDepth 1000000 in
theorem pN13x0_ok : okTree pN13x0_tree true [] pN13x0_dead = true := by kernel_rfl
theorem pN13x0_any (a0 : Int) (h0 : 13 ≤ a0 ∧ a0 ≤ 13) (a1 : Int) (h1 : 0 ≤ a1 ∧ a1 ≤ 0) (w : World) : Calls Tryz.prog 6 #[.int .i64 a0, .int .i64 a1] w fun e w' => e = .returned (.bool true) ∧ Kp [] w w' := by
  obtain rfl : a0 = 13 := by omega
  obtain rfl : a1 = 0 := by omega
  exact run_bool (ds := pN13x0_dead) follows_mixed plans_ok hubDeaf.sumsG_ok (pN13x0_run) pN13x0_ok (fun i => if i = 0 then 13 else if i = 1 then 0 else 0) (fun x hx => by cases hx) (rgOk_cons (⟨Int.le_refl _, Int.le_refl _⟩) (rgOk_cons (⟨Int.le_refl _, Int.le_refl _⟩) (rgOk_nil))) (fun d hd => by simp [pN13x0_dead] at hd) (xs := [.int .i64 13, .int .i64 0]) (by rfl) w

def pN13x1_dead : List (List (SB × Bool)) := []
noncomputable def pN13x1_tree : R := fillT endT []
set_option maxRecDepth 1000000 in
theorem pN13x1_run : evCall Tryz.prog plans hubDeaf.sumsG 100000 6 [.int .i64 (.lit (.ofNat 13)), .int .i64 (.lit (.ofNat 1))] (s0 [] [[]] [((.ofNat 13), (.ofNat 13)), ((.ofNat 1), (.ofNat 1))]) finK = pN13x1_tree := by kernel_rfl
set_option maxRecDepth 1000000 in
theorem pN13x1_ok : okTree pN13x1_tree true [] pN13x1_dead = true := by kernel_rfl
theorem pN13x1_any (a0 : Int) (h0 : 13 ≤ a0 ∧ a0 ≤ 13) (a1 : Int) (h1 : 1 ≤ a1 ∧ a1 ≤ 1) (w : World) : Calls Tryz.prog 6 #[.int .i64 a0, .int .i64 a1] w fun e w' => e = .returned (.bool true) ∧ Kp [] w w' := by
  obtain rfl : a0 = 13 := by omega
  obtain rfl : a1 = 1 := by omega
  exact run_bool (ds := pN13x1_dead) follows_mixed plans_ok hubDeaf.sumsG_ok (pN13x1_run) pN13x1_ok (fun i => if i = 0 then 13 else if i = 1 then 1 else 0) (fun x hx => by cases hx) (rgOk_cons (⟨Int.le_refl _, Int.le_refl _⟩) (rgOk_cons (⟨Int.le_refl _, Int.le_refl _⟩) (rgOk_nil))) (fun d hd => by simp [pN13x1_dead] at hd) (xs := [.int .i64 13, .int .i64 1]) (by rfl) w

def pN13x2_dead : List (List (SB × Bool)) := []
noncomputable def pN13x2_tree : R := fillT endT []
set_option maxRecDepth 1000000 in
theorem pN13x2_run : evCall Tryz.prog plans hubDeaf.sumsG 100000 6 [.int .i64 (.lit (.ofNat 13)), .int .i64 (.lit (.ofNat 2))] (s0 [] [[]] [((.ofNat 13), (.ofNat 13)), ((.ofNat 2), (.ofNat 2))]) finK = pN13x2_tree := by kernel_rfl
set_option maxRecDepth 1000000 in
theorem pN13x2_ok : okTree pN13x2_tree true [] pN13x2_dead = true := by kernel_rfl
theorem pN13x2_any (a0 : Int) (h0 : 13 ≤ a0 ∧ a0 ≤ 13) (a1 : Int) (h1 : 2 ≤ a1 ∧ a1 ≤ 2) (w : World) : Calls Tryz.prog 6 #[.int .i64 a0, .int .i64 a1] w fun e w' => e = .returned (.bool true) ∧ Kp [] w w' := by
  obtain rfl : a0 = 13 := by omega
  obtain rfl : a1 = 2 := by omega
  exact run_bool (ds := pN13x2_dead) follows_mixed plans_ok hubDeaf.sumsG_ok (pN13x2_run) pN13x2_ok (fun i => if i = 0 then 13 else if i = 1 then 2 else 0) (fun x hx => by cases hx) (rgOk_cons (⟨Int.le_refl _, Int.le_refl _⟩) (rgOk_cons (⟨Int.le_refl _, Int.le_refl _⟩) (rgOk_nil))) (fun d hd => by simp [pN13x2_dead] at hd) (xs := [.int .i64 13, .int .i64 2]) (by rfl) w

def pN13x3_dead : List (List (SB × Bool)) := []
noncomputable def pN13x3_tree : R := fillT endT []
set_option maxRecDepth 1000000 in
theorem pN13x3_run : evCall Tryz.prog plans hubDeaf.sumsG 100000 6 [.int .i64 (.lit (.ofNat 13)), .int .i64 (.lit (.ofNat 3))] (s0 [] [[]] [((.ofNat 13), (.ofNat 13)), ((.ofNat 3), (.ofNat 3))]) finK = pN13x3_tree := by kernel_rfl
set_option maxRecDepth 1000000 in
theorem pN13x3_ok : okTree pN13x3_tree true [] pN13x3_dead = true := by kernel_rfl
theorem pN13x3_any (a0 : Int) (h0 : 13 ≤ a0 ∧ a0 ≤ 13) (a1 : Int) (h1 : 3 ≤ a1 ∧ a1 ≤ 3) (w : World) : Calls Tryz.prog 6 #[.int .i64 a0, .int .i64 a1] w fun e w' => e = .returned (.bool true) ∧ Kp [] w w' := by
  obtain rfl : a0 = 13 := by omega
  obtain rfl : a1 = 3 := by omega
  exact run_bool (ds := pN13x3_dead) follows_mixed plans_ok hubDeaf.sumsG_ok (pN13x3_run) pN13x3_ok (fun i => if i = 0 then 13 else if i = 1 then 3 else 0) (fun x hx => by cases hx) (rgOk_cons (⟨Int.le_refl _, Int.le_refl _⟩) (rgOk_cons (⟨Int.le_refl _, Int.le_refl _⟩) (rgOk_nil))) (fun d hd => by simp [pN13x3_dead] at hd) (xs := [.int .i64 13, .int .i64 3]) (by rfl) w

def pN13x4_dead : List (List (SB × Bool)) := []
noncomputable def pN13x4_tree : R := fillT endT []
set_option maxRecDepth 1000000 in
theorem pN13x4_run : evCall Tryz.prog plans hubDeaf.sumsG 100000 6 [.int .i64 (.lit (.ofNat 13)), .int .i64 (.lit (.ofNat 4))] (s0 [] [[]] [((.ofNat 13), (.ofNat 13)), ((.ofNat 4), (.ofNat 4))]) finK = pN13x4_tree := by kernel_rfl
set_option maxRecDepth 1000000 in
theorem pN13x4_ok : okTree pN13x4_tree true [] pN13x4_dead = true := by kernel_rfl
theorem pN13x4_any (a0 : Int) (h0 : 13 ≤ a0 ∧ a0 ≤ 13) (a1 : Int) (h1 : 4 ≤ a1 ∧ a1 ≤ 4) (w : World) : Calls Tryz.prog 6 #[.int .i64 a0, .int .i64 a1] w fun e w' => e = .returned (.bool true) ∧ Kp [] w w' := by
  obtain rfl : a0 = 13 := by omega
  obtain rfl : a1 = 4 := by omega
  exact run_bool (ds := pN13x4_dead) follows_mixed plans_ok hubDeaf.sumsG_ok (pN13x4_run) pN13x4_ok (fun i => if i = 0 then 13 else if i = 1 then 4 else 0) (fun x hx => by cases hx) (rgOk_cons (⟨Int.le_refl _, Int.le_refl _⟩) (rgOk_cons (⟨Int.le_refl _, Int.le_refl _⟩) (rgOk_nil))) (fun d hd => by simp [pN13x4_dead] at hd) (xs := [.int .i64 13, .int .i64 4]) (by rfl) w

end Go.Proofs.YtlmpmmcefdhgmaaGreat.hubDeaf

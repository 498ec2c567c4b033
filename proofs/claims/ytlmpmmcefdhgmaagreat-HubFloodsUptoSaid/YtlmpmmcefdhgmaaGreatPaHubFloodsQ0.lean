/-
  HubFloods: runs, F0, F1, F2, F3, F4, F5, F6, F7, F8.
-/
import Derived.Test.YtlmpmmcefdhgmaaGreatSgFS
import Derived.Test.YtlmpmmcefdhgmaaGreatRs
import Derived.Test.YtlmpmmcefdhgmaaGreatPlsOk
set_option linter.unusedVariables false
set_option linter.unusedSimpArgs false
namespace Go.Proofs.YtlmpmmcefdhgmaaGreat.hubFloods
open Go

def pF0_dead : List (List (SB × Bool)) := []
noncomputable def pF0_tree : R := fillT endT []
set_option maxRecDepth 1000000 in
theorem pF0_run : evCall Tryz.prog plans hubFloods.sumsG 100000 3 [.int .i64 (.lit (.ofNat 0)), .int .i64 (.var 1), .int .i64 (.var 2)] (s0 [] [[]] [((.ofNat 0), (.ofNat 0)), ((.ofNat 1), (.ofNat 32)), ((.ofNat 1), (.ofNat 65535))]) finK = pF0_tree := by kernel_rfl
set_option maxRecDepth 1000000 in
theorem pF0_ok : okTree pF0_tree true [] pF0_dead = true := by kernel_rfl
theorem pF0_any (a0 : Int) (h0 : 0 ≤ a0 ∧ a0 ≤ 0) (a1 : Int) (h1 : 1 ≤ a1 ∧ a1 ≤ 32) (a2 : Int) (h2 : 1 ≤ a2 ∧ a2 ≤ 65535) (w : World) : Calls Tryz.prog 3 #[.int .i64 a0, .int .i64 a1, .int .i64 a2] w fun e w' => e = .returned (.bool true) ∧ Kp [] w w' := by
  obtain rfl : a0 = 0 := by omega
  exact run_bool (ds := pF0_dead) follows_mixed plans_ok hubFloods.sumsG_ok (pF0_run) pF0_ok (fun i => if i = 0 then 0 else if i = 1 then a1 else if i = 2 then a2 else 0) (fun x hx => by cases hx) (rgOk_cons (⟨Int.le_refl _, Int.le_refl _⟩) (rgOk_cons (⟨h1.1, h1.2⟩) (rgOk_cons (⟨h2.1, h2.2⟩) (rgOk_nil)))) (fun d hd => by simp [pF0_dead] at hd) (xs := [.int .i64 0, .int .i64 a1, .int .i64 a2]) (by rfl) w

def pF1_dead : List (List (SB × Bool)) := []
noncomputable def pF1_tree : R := fillT endT []
set_option maxRecDepth 1000000 in
theorem pF1_run : evCall Tryz.prog plans hubFloods.sumsG 100000 3 [.int .i64 (.lit (.ofNat 1)), .int .i64 (.var 1), .int .i64 (.var 2)] (s0 [] [[]] [((.ofNat 1), (.ofNat 1)), ((.ofNat 1), (.ofNat 32)), ((.ofNat 1), (.ofNat 65535))]) finK = pF1_tree := by kernel_rfl
set_option maxRecDepth 1000000 in
theorem pF1_ok : okTree pF1_tree true [] pF1_dead = true := by kernel_rfl
theorem pF1_any (a0 : Int) (h0 : 1 ≤ a0 ∧ a0 ≤ 1) (a1 : Int) (h1 : 1 ≤ a1 ∧ a1 ≤ 32) (a2 : Int) (h2 : 1 ≤ a2 ∧ a2 ≤ 65535) (w : World) : Calls Tryz.prog 3 #[.int .i64 a0, .int .i64 a1, .int .i64 a2] w fun e w' => e = .returned (.bool true) ∧ Kp [] w w' := by
  obtain rfl : a0 = 1 := by omega
  exact run_bool (ds := pF1_dead) follows_mixed plans_ok hubFloods.sumsG_ok (pF1_run) pF1_ok (fun i => if i = 0 then 1 else if i = 1 then a1 else if i = 2 then a2 else 0) (fun x hx => by cases hx) (rgOk_cons (⟨Int.le_refl _, Int.le_refl _⟩) (rgOk_cons (⟨h1.1, h1.2⟩) (rgOk_cons (⟨h2.1, h2.2⟩) (rgOk_nil)))) (fun d hd => by simp [pF1_dead] at hd) (xs := [.int .i64 1, .int .i64 a1, .int .i64 a2]) (by rfl) w

def pF2_dead : List (List (SB × Bool)) := []
noncomputable def pF2_tree : R := fillT endT []
set_option maxRecDepth 1000000 in
theorem pF2_run : evCall Tryz.prog plans hubFloods.sumsG 100000 3 [.int .i64 (.lit (.ofNat 2)), .int .i64 (.var 1), .int .i64 (.var 2)] (s0 [] [[]] [((.ofNat 2), (.ofNat 2)), ((.ofNat 2), (.ofNat 32)), ((.ofNat 1), (.ofNat 65535))]) finK = pF2_tree := by kernel_rfl
set_option maxRecDepth 1000000 in
theorem pF2_ok : okTree pF2_tree true [] pF2_dead = true := by kernel_rfl
theorem pF2_any (a0 : Int) (h0 : 2 ≤ a0 ∧ a0 ≤ 2) (a1 : Int) (h1 : 2 ≤ a1 ∧ a1 ≤ 32) (a2 : Int) (h2 : 1 ≤ a2 ∧ a2 ≤ 65535) (w : World) : Calls Tryz.prog 3 #[.int .i64 a0, .int .i64 a1, .int .i64 a2] w fun e w' => e = .returned (.bool true) ∧ Kp [] w w' := by
  obtain rfl : a0 = 2 := by omega
  exact run_bool (ds := pF2_dead) follows_mixed plans_ok hubFloods.sumsG_ok (pF2_run) pF2_ok (fun i => if i = 0 then 2 else if i = 1 then a1 else if i = 2 then a2 else 0) (fun x hx => by cases hx) (rgOk_cons (⟨Int.le_refl _, Int.le_refl _⟩) (rgOk_cons (⟨h1.1, h1.2⟩) (rgOk_cons (⟨h2.1, h2.2⟩) (rgOk_nil)))) (fun d hd => by simp [pF2_dead] at hd) (xs := [.int .i64 2, .int .i64 a1, .int .i64 a2]) (by rfl) w

def pF3_dead : List (List (SB × Bool)) := []
noncomputable def pF3_tree : R := fillT endT []
set_option maxRecDepth 1000000 in
theorem pF3_run : evCall Tryz.prog plans hubFloods.sumsG 100000 3 [.int .i64 (.lit (.ofNat 3)), .int .i64 (.var 1), .int .i64 (.var 2)] (s0 [] [[]] [((.ofNat 3), (.ofNat 3)), ((.ofNat 3), (.ofNat 32)), ((.ofNat 1), (.ofNat 65535))]) finK = pF3_tree := by kernel_rfl
set_option maxRecDepth 1000000 in
theorem pF3_ok : okTree pF3_tree true [] pF3_dead = true := by kernel_rfl
theorem pF3_any (a0 : Int) (h0 : 3 ≤ a0 ∧ a0 ≤ 3) (a1 : Int) (h1 : 3 ≤ a1 ∧ a1 ≤ 32) (a2 : Int) (h2 : 1 ≤ a2 ∧ a2 ≤ 65535) (w : World) : Calls Tryz.prog 3 #[.int .i64 a0, .int .i64 a1, .int .i64 a2] w fun e w' => e = .returned (.bool true) ∧ Kp [] w w' := by
  obtain rfl : a0 = 3 := by omega
  exact run_bool (ds := pF3_dead) follows_mixed plans_ok hubFloods.sumsG_ok (pF3_run) pF3_ok (fun i => if i = 0 then 3 else if i = 1 then a1 else if i = 2 then a2 else 0) (fun x hx => by cases hx) (rgOk_cons (⟨Int.le_refl _, Int.le_refl _⟩) (rgOk_cons (⟨h1.1, h1.2⟩) (rgOk_cons (⟨h2.1, h2.2⟩) (rgOk_nil)))) (fun d hd => by simp [pF3_dead] at hd) (xs := [.int .i64 3, .int .i64 a1, .int .i64 a2]) (by rfl) w

def pF4_dead : List (List (SB × Bool)) := []
noncomputable def pF4_tree : R := fillT endT []
set_option maxRecDepth 1000000 in
theorem pF4_run : evCall Tryz.prog plans hubFloods.sumsG 100000 3 [.int .i64 (.lit (.ofNat 4)), .int .i64 (.var 1), .int .i64 (.var 2)] (s0 [] [[]] [((.ofNat 4), (.ofNat 4)), ((.ofNat 4), (.ofNat 32)), ((.ofNat 1), (.ofNat 65535))]) finK = pF4_tree := by kernel_rfl
set_option maxRecDepth 1000000 in
theorem pF4_ok : okTree pF4_tree true [] pF4_dead = true := by kernel_rfl
theorem pF4_any (a0 : Int) (h0 : 4 ≤ a0 ∧ a0 ≤ 4) (a1 : Int) (h1 : 4 ≤ a1 ∧ a1 ≤ 32) (a2 : Int) (h2 : 1 ≤ a2 ∧ a2 ≤ 65535) (w : World) : Calls Tryz.prog 3 #[.int .i64 a0, .int .i64 a1, .int .i64 a2] w fun e w' => e = .returned (.bool true) ∧ Kp [] w w' := by
  obtain rfl : a0 = 4 := by omega
  exact run_bool (ds := pF4_dead) follows_mixed plans_ok hubFloods.sumsG_ok (pF4_run) pF4_ok (fun i => if i = 0 then 4 else if i = 1 then a1 else if i = 2 then a2 else 0) (fun x hx => by cases hx) (rgOk_cons (⟨Int.le_refl _, Int.le_refl _⟩) (rgOk_cons (⟨h1.1, h1.2⟩) (rgOk_cons (⟨h2.1, h2.2⟩) (rgOk_nil)))) (fun d hd => by simp [pF4_dead] at hd) (xs := [.int .i64 4, .int .i64 a1, .int .i64 a2]) (by rfl) w

def pF5_dead : List (List (SB × Bool)) := []
noncomputable def pF5_tree : R := fillT endT []
set_option maxRecDepth 1000000 in
theorem pF5_run : evCall Tryz.prog plans hubFloods.sumsG 100000 3 [.int .i64 (.lit (.ofNat 5)), .int .i64 (.var 1), .int .i64 (.var 2)] (s0 [] [[]] [((.ofNat 5), (.ofNat 5)), ((.ofNat 5), (.ofNat 32)), ((.ofNat 1), (.ofNat 65535))]) finK = pF5_tree := by kernel_rfl
set_option maxRecDepth 1000000 in
theorem pF5_ok : okTree pF5_tree true [] pF5_dead = true := by kernel_rfl
theorem pF5_any (a0 : Int) (h0 : 5 ≤ a0 ∧ a0 ≤ 5) (a1 : Int) (h1 : 5 ≤ a1 ∧ a1 ≤ 32) (a2 : Int) (h2 : 1 ≤ a2 ∧ a2 ≤ 65535) (w : World) : Calls Tryz.prog 3 #[.int .i64 a0, .int .i64 a1, .int .i64 a2] w fun e w' => e = .returned (.bool true) ∧ Kp [] w w' := by
  obtain rfl : a0 = 5 := by omega
  exact run_bool (ds := pF5_dead) follows_mixed plans_ok hubFloods.sumsG_ok (pF5_run) pF5_ok (fun i => if i = 0 then 5 else if i = 1 then a1 else if i = 2 then a2 else 0) (fun x hx => by cases hx) (rgOk_cons (⟨Int.le_refl _, Int.le_refl _⟩) (rgOk_cons (⟨h1.1, h1.2⟩) (rgOk_cons (⟨h2.1, h2.2⟩) (rgOk_nil)))) (fun d hd => by simp [pF5_dead] at hd) (xs := [.int .i64 5, .int .i64 a1, .int .i64 a2]) (by rfl) w

def pF6_dead : List (List (SB × Bool)) := []
noncomputable def pF6_tree : R := fillT endT []
set_option maxRecDepth 1000000 in
theorem pF6_run : evCall Tryz.prog plans hubFloods.sumsG 100000 3 [.int .i64 (.lit (.ofNat 6)), .int .i64 (.var 1), .int .i64 (.var 2)] (s0 [] [[]] [((.ofNat 6), (.ofNat 6)), ((.ofNat 6), (.ofNat 32)), ((.ofNat 1), (.ofNat 65535))]) finK = pF6_tree := by kernel_rfl
set_option maxRecDepth 1000000 in
theorem pF6_ok : okTree pF6_tree true [] pF6_dead = true := by kernel_rfl
theorem pF6_any (a0 : Int) (h0 : 6 ≤ a0 ∧ a0 ≤ 6) (a1 : Int) (h1 : 6 ≤ a1 ∧ a1 ≤ 32) (a2 : Int) (h2 : 1 ≤ a2 ∧ a2 ≤ 65535) (w : World) : Calls Tryz.prog 3 #[.int .i64 a0, .int .i64 a1, .int .i64 a2] w fun e w' => e = .returned (.bool true) ∧ Kp [] w w' := by
  obtain rfl : a0 = 6 := by omega
  exact run_bool (ds := pF6_dead) follows_mixed plans_ok hubFloods.sumsG_ok (pF6_run) pF6_ok (fun i => if i = 0 then 6 else if i = 1 then a1 else if i = 2 then a2 else 0) (fun x hx => by cases hx) (rgOk_cons (⟨Int.le_refl _, Int.le_refl _⟩) (rgOk_cons (⟨h1.1, h1.2⟩) (rgOk_cons (⟨h2.1, h2.2⟩) (rgOk_nil)))) (fun d hd => by simp [pF6_dead] at hd) (xs := [.int .i64 6, .int .i64 a1, .int .i64 a2]) (by rfl) w

def pF7_dead : List (List (SB × Bool)) := []
noncomputable def pF7_tree : R := fillT endT []
set_option maxRecDepth 1000000 in
theorem pF7_run : evCall Tryz.prog plans hubFloods.sumsG 100000 3 [.int .i64 (.lit (.ofNat 7)), .int .i64 (.var 1), .int .i64 (.var 2)] (s0 [] [[]] [((.ofNat 7), (.ofNat 7)), ((.ofNat 7), (.ofNat 32)), ((.ofNat 1), (.ofNat 65535))]) finK = pF7_tree := by kernel_rfl
set_option maxRecDepth 1000000 in
theorem pF7_ok : okTree pF7_tree true [] pF7_dead = true := by kernel_rfl
theorem pF7_any (a0 : Int) (h0 : 7 ≤ a0 ∧ a0 ≤ 7) (a1 : Int) (h1 : 7 ≤ a1 ∧ a1 ≤ 32) (a2 : Int) (h2 : 1 ≤ a2 ∧ a2 ≤ 65535) (w : World) : Calls Tryz.prog 3 #[.int .i64 a0, .int .i64 a1, .int .i64 a2] w fun e w' => e = .returned (.bool true) ∧ Kp [] w w' := by
  obtain rfl : a0 = 7 := by omega
  exact run_bool (ds := pF7_dead) follows_mixed plans_ok hubFloods.sumsG_ok (pF7_run) pF7_ok (fun i => if i = 0 then 7 else if i = 1 then a1 else if i = 2 then a2 else 0) (fun x hx => by cases hx) (rgOk_cons (⟨Int.le_refl _, Int.le_refl _⟩) (rgOk_cons (⟨h1.1, h1.2⟩) (rgOk_cons (⟨h2.1, h2.2⟩) (rgOk_nil)))) (fun d hd => by simp [pF7_dead] at hd) (xs := [.int .i64 7, .int .i64 a1, .int .i64 a2]) (by rfl) w

def pF8_dead : List (List (SB × Bool)) := []
noncomputable def pF8_tree : R := fillT endT []
set_option maxRecDepth 1000000 in
theorem pF8_run : evCall Tryz.prog plans hubFloods.sumsG 100000 3 [.int .i64 (.lit (.ofNat 8)), .int .i64 (.var 1), .int .i64 (.var 2)] (s0 [] [[]] [((.ofNat 8), (.ofNat 8)), ((.ofNat 8), (.ofNat 32)), ((.ofNat 1), (.ofNat 65535))]) finK = pF8_tree := by kernel_rfl
set_option maxRecDepth 1000000 in
theorem pF8_ok : okTree pF8_tree true [] pF8_dead = true := by kernel_rfl
theorem pF8_any (a0 : Int) (h0 : 8 ≤ a0 ∧ a0 ≤ 8) (a1 : Int) (h1 : 8 ≤ a1 ∧ a1 ≤ 32) (a2 : Int) (h2 : 1 ≤ a2 ∧ a2 ≤ 65535) (w : World) : Calls Tryz.prog 3 #[.int .i64 a0, .int .i64 a1, .int .i64 a2] w fun e w' => e = .returned (.bool true) ∧ Kp [] w w' := by
  obtain rfl : a0 = 8 := by omega
  exact run_bool (ds := pF8_dead) follows_mixed plans_ok hubFloods.sumsG_ok (pF8_run) pF8_ok (fun i => if i = 0 then 8 else if i = 1 then a1 else if i = 2 then a2 else 0) (fun x hx => by cases hx) (rgOk_cons (⟨Int.le_refl _, Int.le_refl _⟩) (rgOk_cons (⟨h1.1, h1.2⟩) (rgOk_cons (⟨h2.1, h2.2⟩) (rgOk_nil)))) (fun d hd => by simp [pF8_dead] at hd) (xs := [.int .i64 8, .int .i64 a1, .int .i64 a2]) (by rfl) w

end Go.Proofs.YtlmpmmcefdhgmaaGreat.hubFloods

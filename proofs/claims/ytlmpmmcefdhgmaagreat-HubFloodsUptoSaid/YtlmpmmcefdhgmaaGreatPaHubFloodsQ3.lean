/-
  HubFloods: runs, F27, F28, F29, F30, F31, F32, M1, M2, M3.
-/
import Derived.Test.YtlmpmmcefdhgmaaGreatSgFS
import Derived.Test.YtlmpmmcefdhgmaaGreatRs
import Derived.Test.YtlmpmmcefdhgmaaGreatPlsOk
import Derived.Test.YtlmpmmcefdhgmaaGreatAccFOk
import Derived.Test.YtlmpmmcefdhgmaaGreatAccFOk
import Derived.Test.YtlmpmmcefdhgmaaGreatAccFOk
set_option linter.unusedVariables false
set_option linter.unusedSimpArgs false
namespace Go.Proofs.YtlmpmmcefdhgmaaGreat.hubFloods
open Go

def pF27_dead : List (List (SB × Bool)) := []
noncomputable def pF27_tree : R := fillT endT []
set_option maxRecDepth 1000000 in
theorem pF27_run : evCall Tryz.prog plans hubFloods.sumsG 100000 3 [.int .i64 (.lit (.ofNat 27)), .int .i64 (.var 1), .int .i64 (.var 2)] (s0 [] [[]] [((.ofNat 27), (.ofNat 27)), ((.ofNat 27), (.ofNat 32)), ((.ofNat 1), (.ofNat 65535))]) finK = pF27_tree := by kernel_rfl
set_option maxRecDepth 1000000 in
theorem pF27_ok : okTree pF27_tree true [] pF27_dead = true := by kernel_rfl
theorem pF27_any (a0 : Int) (h0 : 27 ≤ a0 ∧ a0 ≤ 27) (a1 : Int) (h1 : 27 ≤ a1 ∧ a1 ≤ 32) (a2 : Int) (h2 : 1 ≤ a2 ∧ a2 ≤ 65535) (w : World) : Calls Tryz.prog 3 #[.int .i64 a0, .int .i64 a1, .int .i64 a2] w fun e w' => e = .returned (.bool true) ∧ Kp [] w w' := by
  obtain rfl : a0 = 27 := by omega
  exact run_bool (ds := pF27_dead) follows_mixed plans_ok hubFloods.sumsG_ok (pF27_run) pF27_ok (fun i => if i = 0 then 27 else if i = 1 then a1 else if i = 2 then a2 else 0) (fun x hx => by cases hx) (rgOk_cons (⟨Int.le_refl _, Int.le_refl _⟩) (rgOk_cons (⟨h1.1, h1.2⟩) (rgOk_cons (⟨h2.1, h2.2⟩) (rgOk_nil)))) (fun d hd => by simp [pF27_dead] at hd) (xs := [.int .i64 27, .int .i64 a1, .int .i64 a2]) (by rfl) w

def pF28_dead : List (List (SB × Bool)) := []
noncomputable def pF28_tree : R := fillT endT []
set_option maxRecDepth 1000000 in
theorem pF28_run : evCall Tryz.prog plans hubFloods.sumsG 100000 3 [.int .i64 (.lit (.ofNat 28)), .int .i64 (.var 1), .int .i64 (.var 2)] (s0 [] [[]] [((.ofNat 28), (.ofNat 28)), ((.ofNat 28), (.ofNat 32)), ((.ofNat 1), (.ofNat 65535))]) finK = pF28_tree := by kernel_rfl
set_option maxRecDepth 1000000 in
theorem pF28_ok : okTree pF28_tree true [] pF28_dead = true := by kernel_rfl
theorem pF28_any (a0 : Int) (h0 : 28 ≤ a0 ∧ a0 ≤ 28) (a1 : Int) (h1 : 28 ≤ a1 ∧ a1 ≤ 32) (a2 : Int) (h2 : 1 ≤ a2 ∧ a2 ≤ 65535) (w : World) : Calls Tryz.prog 3 #[.int .i64 a0, .int .i64 a1, .int .i64 a2] w fun e w' => e = .returned (.bool true) ∧ Kp [] w w' := by
  obtain rfl : a0 = 28 := by omega
  exact run_bool (ds := pF28_dead) follows_mixed plans_ok hubFloods.sumsG_ok (pF28_run) pF28_ok (fun i => if i = 0 then 28 else if i = 1 then a1 else if i = 2 then a2 else 0) (fun x hx => by cases hx) (rgOk_cons (⟨Int.le_refl _, Int.le_refl _⟩) (rgOk_cons (⟨h1.1, h1.2⟩) (rgOk_cons (⟨h2.1, h2.2⟩) (rgOk_nil)))) (fun d hd => by simp [pF28_dead] at hd) (xs := [.int .i64 28, .int .i64 a1, .int .i64 a2]) (by rfl) w

def pF29_dead : List (List (SB × Bool)) := []
noncomputable def pF29_tree : R := fillT endT []
set_option maxRecDepth 1000000 in
theorem pF29_run : evCall Tryz.prog plans hubFloods.sumsG 100000 3 [.int .i64 (.lit (.ofNat 29)), .int .i64 (.var 1), .int .i64 (.var 2)] (s0 [] [[]] [((.ofNat 29), (.ofNat 29)), ((.ofNat 29), (.ofNat 32)), ((.ofNat 1), (.ofNat 65535))]) finK = pF29_tree := by kernel_rfl
set_option maxRecDepth 1000000 in
theorem pF29_ok : okTree pF29_tree true [] pF29_dead = true := by kernel_rfl
theorem pF29_any (a0 : Int) (h0 : 29 ≤ a0 ∧ a0 ≤ 29) (a1 : Int) (h1 : 29 ≤ a1 ∧ a1 ≤ 32) (a2 : Int) (h2 : 1 ≤ a2 ∧ a2 ≤ 65535) (w : World) : Calls Tryz.prog 3 #[.int .i64 a0, .int .i64 a1, .int .i64 a2] w fun e w' => e = .returned (.bool true) ∧ Kp [] w w' := by
  obtain rfl : a0 = 29 := by omega
  exact run_bool (ds := pF29_dead) follows_mixed plans_ok hubFloods.sumsG_ok (pF29_run) pF29_ok (fun i => if i = 0 then 29 else if i = 1 then a1 else if i = 2 then a2 else 0) (fun x hx => by cases hx) (rgOk_cons (⟨Int.le_refl _, Int.le_refl _⟩) (rgOk_cons (⟨h1.1, h1.2⟩) (rgOk_cons (⟨h2.1, h2.2⟩) (rgOk_nil)))) (fun d hd => by simp [pF29_dead] at hd) (xs := [.int .i64 29, .int .i64 a1, .int .i64 a2]) (by rfl) w

def pF30_dead : List (List (SB × Bool)) := []
noncomputable def pF30_tree : R := fillT endT []
set_option maxRecDepth 1000000 in
theorem pF30_run : evCall Tryz.prog plans hubFloods.sumsG 100000 3 [.int .i64 (.lit (.ofNat 30)), .int .i64 (.var 1), .int .i64 (.var 2)] (s0 [] [[]] [((.ofNat 30), (.ofNat 30)), ((.ofNat 30), (.ofNat 32)), ((.ofNat 1), (.ofNat 65535))]) finK = pF30_tree := by kernel_rfl
set_option maxRecDepth 1000000 in
theorem pF30_ok : okTree pF30_tree true [] pF30_dead = true := by kernel_rfl
theorem pF30_any (a0 : Int) (h0 : 30 ≤ a0 ∧ a0 ≤ 30) (a1 : Int) (h1 : 30 ≤ a1 ∧ a1 ≤ 32) (a2 : Int) (h2 : 1 ≤ a2 ∧ a2 ≤ 65535) (w : World) : Calls Tryz.prog 3 #[.int .i64 a0, .int .i64 a1, .int .i64 a2] w fun e w' => e = .returned (.bool true) ∧ Kp [] w w' := by
  obtain rfl : a0 = 30 := by omega
  exact run_bool (ds := pF30_dead) follows_mixed plans_ok hubFloods.sumsG_ok (pF30_run) pF30_ok (fun i => if i = 0 then 30 else if i = 1 then a1 else if i = 2 then a2 else 0) (fun x hx => by cases hx) (rgOk_cons (⟨Int.le_refl _, Int.le_refl _⟩) (rgOk_cons (⟨h1.1, h1.2⟩) (rgOk_cons (⟨h2.1, h2.2⟩) (rgOk_nil)))) (fun d hd => by simp [pF30_dead] at hd) (xs := [.int .i64 30, .int .i64 a1, .int .i64 a2]) (by rfl) w

def pF31_dead : List (List (SB × Bool)) := []
noncomputable def pF31_tree : R := fillT endT []
set_option maxRecDepth 1000000 in
theorem pF31_run : evCall Tryz.prog plans hubFloods.sumsG 100000 3 [.int .i64 (.lit (.ofNat 31)), .int .i64 (.var 1), .int .i64 (.var 2)] (s0 [] [[]] [((.ofNat 31), (.ofNat 31)), ((.ofNat 31), (.ofNat 32)), ((.ofNat 1), (.ofNat 65535))]) finK = pF31_tree := by kernel_rfl
set_option maxRecDepth 1000000 in
theorem pF31_ok : okTree pF31_tree true [] pF31_dead = true := by kernel_rfl
theorem pF31_any (a0 : Int) (h0 : 31 ≤ a0 ∧ a0 ≤ 31) (a1 : Int) (h1 : 31 ≤ a1 ∧ a1 ≤ 32) (a2 : Int) (h2 : 1 ≤ a2 ∧ a2 ≤ 65535) (w : World) : Calls Tryz.prog 3 #[.int .i64 a0, .int .i64 a1, .int .i64 a2] w fun e w' => e = .returned (.bool true) ∧ Kp [] w w' := by
  obtain rfl : a0 = 31 := by omega
  exact run_bool (ds := pF31_dead) follows_mixed plans_ok hubFloods.sumsG_ok (pF31_run) pF31_ok (fun i => if i = 0 then 31 else if i = 1 then a1 else if i = 2 then a2 else 0) (fun x hx => by cases hx) (rgOk_cons (⟨Int.le_refl _, Int.le_refl _⟩) (rgOk_cons (⟨h1.1, h1.2⟩) (rgOk_cons (⟨h2.1, h2.2⟩) (rgOk_nil)))) (fun d hd => by simp [pF31_dead] at hd) (xs := [.int .i64 31, .int .i64 a1, .int .i64 a2]) (by rfl) w

def pF32_dead : List (List (SB × Bool)) := []
noncomputable def pF32_tree : R := fillT endT []
set_option maxRecDepth 1000000 in
theorem pF32_run : evCall Tryz.prog plans hubFloods.sumsG 100000 3 [.int .i64 (.lit (.ofNat 32)), .int .i64 (.var 1), .int .i64 (.var 2)] (s0 [] [[]] [((.ofNat 32), (.ofNat 32)), ((.ofNat 32), (.ofNat 32)), ((.ofNat 1), (.ofNat 65535))]) finK = pF32_tree := by kernel_rfl
set_option maxRecDepth 1000000 in
theorem pF32_ok : okTree pF32_tree true [] pF32_dead = true := by kernel_rfl
theorem pF32_any (a0 : Int) (h0 : 32 ≤ a0 ∧ a0 ≤ 32) (a1 : Int) (h1 : 32 ≤ a1 ∧ a1 ≤ 32) (a2 : Int) (h2 : 1 ≤ a2 ∧ a2 ≤ 65535) (w : World) : Calls Tryz.prog 3 #[.int .i64 a0, .int .i64 a1, .int .i64 a2] w fun e w' => e = .returned (.bool true) ∧ Kp [] w w' := by
  obtain rfl : a0 = 32 := by omega
  obtain rfl : a1 = 32 := by omega
  exact run_bool (ds := pF32_dead) follows_mixed plans_ok hubFloods.sumsG_ok (pF32_run) pF32_ok (fun i => if i = 0 then 32 else if i = 1 then 32 else if i = 2 then a2 else 0) (fun x hx => by cases hx) (rgOk_cons (⟨Int.le_refl _, Int.le_refl _⟩) (rgOk_cons (⟨Int.le_refl _, Int.le_refl _⟩) (rgOk_cons (⟨h2.1, h2.2⟩) (rgOk_nil)))) (fun d hd => by simp [pF32_dead] at hd) (xs := [.int .i64 32, .int .i64 32, .int .i64 a2]) (by rfl) w

def pM1_dead : List (List (SB × Bool)) := []
noncomputable def pM1_tree : R := fillT endT []
set_option maxRecDepth 1000000 in
theorem pM1_run : evCall Tryz.prog plansM1 hubFloods.sumsG 100000 3 [.int .i64 (.var 0), .int .i64 (.var 1), .int .i64 (.var 2)] (s0 [] [[]] [((.ofNat 2), (.ofNat 300)), ((.ofNat 1), (.ofNat 1)), ((.ofNat 1), (.ofNat 65535)), ((.ofNat 1), (.ofNat 299))]) finK = pM1_tree := by kernel_rfl
set_option maxRecDepth 1000000 in
theorem pM1_ok : okTree pM1_tree true [] pM1_dead = true := by kernel_rfl
theorem pM1_any (a0 : Int) (h0 : 2 ≤ a0 ∧ a0 ≤ 300) (a1 : Int) (h1 : 1 ≤ a1 ∧ a1 ≤ 1) (a2 : Int) (h2 : 1 ≤ a2 ∧ a2 ≤ 65535) (w : World) : Calls Tryz.prog 3 #[.int .i64 a0, .int .i64 a1, .int .i64 a2] w fun e w' => e = .returned (.bool true) ∧ Kp [] w w' := by
  obtain rfl : a1 = 1 := by omega
  exact run_bool (ds := pM1_dead) follows_mixed plansM1_ok hubFloods.sumsG_ok (pM1_run) pM1_ok (fun i => if i = 0 then a0 else if i = 1 then 1 else if i = 2 then a2 else if i = 3 then 1 else 0) (fun x hx => by cases hx) (rgOk_cons (⟨h0.1, h0.2⟩) (rgOk_cons (⟨Int.le_refl _, Int.le_refl _⟩) (rgOk_cons (⟨h2.1, h2.2⟩) (rgOk_cons (⟨Int.le_refl _, (by decide : (1 : Int) ≤ 299)⟩) (rgOk_nil))))) (fun d hd => by simp [pM1_dead] at hd) (xs := [.int .i64 a0, .int .i64 1, .int .i64 a2]) (by rfl) w

def pM2_dead : List (List (SB × Bool)) := []
noncomputable def pM2_tree : R := fillT endT []
set_option maxRecDepth 1000000 in
theorem pM2_run : evCall Tryz.prog plansM2 hubFloods.sumsG 100000 3 [.int .i64 (.var 0), .int .i64 (.var 1), .int .i64 (.var 2)] (s0 [] [[]] [((.ofNat 3), (.ofNat 300)), ((.ofNat 2), (.ofNat 2)), ((.ofNat 1), (.ofNat 65535)), ((.ofNat 2), (.ofNat 299))]) finK = pM2_tree := by kernel_rfl
set_option maxRecDepth 1000000 in
theorem pM2_ok : okTree pM2_tree true [] pM2_dead = true := by kernel_rfl
theorem pM2_any (a0 : Int) (h0 : 3 ≤ a0 ∧ a0 ≤ 300) (a1 : Int) (h1 : 2 ≤ a1 ∧ a1 ≤ 2) (a2 : Int) (h2 : 1 ≤ a2 ∧ a2 ≤ 65535) (w : World) : Calls Tryz.prog 3 #[.int .i64 a0, .int .i64 a1, .int .i64 a2] w fun e w' => e = .returned (.bool true) ∧ Kp [] w w' := by
  obtain rfl : a1 = 2 := by omega
  exact run_bool (ds := pM2_dead) follows_mixed plansM2_ok hubFloods.sumsG_ok (pM2_run) pM2_ok (fun i => if i = 0 then a0 else if i = 1 then 2 else if i = 2 then a2 else if i = 3 then 2 else 0) (fun x hx => by cases hx) (rgOk_cons (⟨h0.1, h0.2⟩) (rgOk_cons (⟨Int.le_refl _, Int.le_refl _⟩) (rgOk_cons (⟨h2.1, h2.2⟩) (rgOk_cons (⟨Int.le_refl _, (by decide : (2 : Int) ≤ 299)⟩) (rgOk_nil))))) (fun d hd => by simp [pM2_dead] at hd) (xs := [.int .i64 a0, .int .i64 2, .int .i64 a2]) (by rfl) w

def pM3_dead : List (List (SB × Bool)) := []
noncomputable def pM3_tree : R := fillT endT []
set_option maxRecDepth 1000000 in
theorem pM3_run : evCall Tryz.prog plansM3 hubFloods.sumsG 100000 3 [.int .i64 (.var 0), .int .i64 (.var 1), .int .i64 (.var 2)] (s0 [] [[]] [((.ofNat 4), (.ofNat 300)), ((.ofNat 3), (.ofNat 3)), ((.ofNat 1), (.ofNat 65535)), ((.ofNat 3), (.ofNat 299))]) finK = pM3_tree := by kernel_rfl
set_option maxRecDepth 1000000 in
theorem pM3_ok : okTree pM3_tree true [] pM3_dead = true := by kernel_rfl
theorem pM3_any (a0 : Int) (h0 : 4 ≤ a0 ∧ a0 ≤ 300) (a1 : Int) (h1 : 3 ≤ a1 ∧ a1 ≤ 3) (a2 : Int) (h2 : 1 ≤ a2 ∧ a2 ≤ 65535) (w : World) : Calls Tryz.prog 3 #[.int .i64 a0, .int .i64 a1, .int .i64 a2] w fun e w' => e = .returned (.bool true) ∧ Kp [] w w' := by
  obtain rfl : a1 = 3 := by omega
  exact run_bool (ds := pM3_dead) follows_mixed plansM3_ok hubFloods.sumsG_ok (pM3_run) pM3_ok (fun i => if i = 0 then a0 else if i = 1 then 3 else if i = 2 then a2 else if i = 3 then 3 else 0) (fun x hx => by cases hx) (rgOk_cons (⟨h0.1, h0.2⟩) (rgOk_cons (⟨Int.le_refl _, Int.le_refl _⟩) (rgOk_cons (⟨h2.1, h2.2⟩) (rgOk_cons (⟨Int.le_refl _, (by decide : (3 : Int) ≤ 299)⟩) (rgOk_nil))))) (fun d hd => by simp [pM3_dead] at hd) (xs := [.int .i64 a0, .int .i64 3, .int .i64 a2]) (by rfl) w

end Go.Proofs.YtlmpmmcefdhgmaaGreat.hubFloods

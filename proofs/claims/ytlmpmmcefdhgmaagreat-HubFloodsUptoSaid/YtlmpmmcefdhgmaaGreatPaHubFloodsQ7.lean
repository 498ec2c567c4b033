/-
  HubFloods: runs, M31, M32, P, Q, L, H, BL, BH.
-/
import Derived.Test.YtlmpmmcefdhgmaaGreatSgFS
import Derived.Test.YtlmpmmcefdhgmaaGreatRs
import Derived.Test.YtlmpmmcefdhgmaaGreatPlsOk
import Derived.Test.YtlmpmmcefdhgmaaGreatAccFOk
import Derived.Test.YtlmpmmcefdhgmaaGreatAccFOk
set_option linter.unusedVariables false
set_option linter.unusedSimpArgs false
namespace Go.Proofs.YtlmpmmcefdhgmaaGreat.hubFloods
open Go

def pM31_dead : List (List (SB × Bool)) := []
noncomputable def pM31_tree : R := fillT endT []
set_option maxRecDepth 1000000 in
theorem pM31_run : evCall Tryz.prog plansM31 hubFloods.sumsG 100000 3 [.int .i64 (.var 0), .int .i64 (.var 1), .int .i64 (.var 2)] (s0 [] [[]] [((.ofNat 32), (.ofNat 300)), ((.ofNat 31), (.ofNat 31)), ((.ofNat 1), (.ofNat 65535)), ((.ofNat 31), (.ofNat 299))]) finK = pM31_tree := by kernel_rfl
set_option maxRecDepth 1000000 in
theorem pM31_ok : okTree pM31_tree true [] pM31_dead = true := by kernel_rfl
theorem pM31_any (a0 : Int) (h0 : 32 ≤ a0 ∧ a0 ≤ 300) (a1 : Int) (h1 : 31 ≤ a1 ∧ a1 ≤ 31) (a2 : Int) (h2 : 1 ≤ a2 ∧ a2 ≤ 65535) (w : World) : Calls Tryz.prog 3 #[.int .i64 a0, .int .i64 a1, .int .i64 a2] w fun e w' => e = .returned (.bool true) ∧ Kp [] w w' := by
  obtain rfl : a1 = 31 := by omega
  exact run_bool (ds := pM31_dead) follows_mixed plansM31_ok hubFloods.sumsG_ok (pM31_run) pM31_ok (fun i => if i = 0 then a0 else if i = 1 then 31 else if i = 2 then a2 else if i = 3 then 31 else 0) (fun x hx => by cases hx) (rgOk_cons (⟨h0.1, h0.2⟩) (rgOk_cons (⟨Int.le_refl _, Int.le_refl _⟩) (rgOk_cons (⟨h2.1, h2.2⟩) (rgOk_cons (⟨Int.le_refl _, (by decide : (31 : Int) ≤ 299)⟩) (rgOk_nil))))) (fun d hd => by simp [pM31_dead] at hd) (xs := [.int .i64 a0, .int .i64 31, .int .i64 a2]) (by rfl) w

def pM32_dead : List (List (SB × Bool)) := []
noncomputable def pM32_tree : R := fillT endT []
set_option maxRecDepth 1000000 in
theorem pM32_run : evCall Tryz.prog plansM32 hubFloods.sumsG 100000 3 [.int .i64 (.var 0), .int .i64 (.var 1), .int .i64 (.var 2)] (s0 [] [[]] [((.ofNat 33), (.ofNat 300)), ((.ofNat 32), (.ofNat 32)), ((.ofNat 1), (.ofNat 65535)), ((.ofNat 32), (.ofNat 299))]) finK = pM32_tree := by kernel_rfl
set_option maxRecDepth 1000000 in
theorem pM32_ok : okTree pM32_tree true [] pM32_dead = true := by kernel_rfl
theorem pM32_any (a0 : Int) (h0 : 33 ≤ a0 ∧ a0 ≤ 300) (a1 : Int) (h1 : 32 ≤ a1 ∧ a1 ≤ 32) (a2 : Int) (h2 : 1 ≤ a2 ∧ a2 ≤ 65535) (w : World) : Calls Tryz.prog 3 #[.int .i64 a0, .int .i64 a1, .int .i64 a2] w fun e w' => e = .returned (.bool true) ∧ Kp [] w w' := by
  obtain rfl : a1 = 32 := by omega
  exact run_bool (ds := pM32_dead) follows_mixed plansM32_ok hubFloods.sumsG_ok (pM32_run) pM32_ok (fun i => if i = 0 then a0 else if i = 1 then 32 else if i = 2 then a2 else if i = 3 then 32 else 0) (fun x hx => by cases hx) (rgOk_cons (⟨h0.1, h0.2⟩) (rgOk_cons (⟨Int.le_refl _, Int.le_refl _⟩) (rgOk_cons (⟨h2.1, h2.2⟩) (rgOk_cons (⟨Int.le_refl _, (by decide : (32 : Int) ≤ 299)⟩) (rgOk_nil))))) (fun d hd => by simp [pM32_dead] at hd) (xs := [.int .i64 a0, .int .i64 32, .int .i64 a2]) (by rfl) w

def pP_dead : List (List (SB × Bool)) := []
noncomputable def pP_tree : R := fillT (.fork (.cmp .lss (.var 0) (.lit (.ofNat 0))) endT (.fork (.cmp .lss (.lit (.ofNat 300)) (.var 0)) endT (.fork (.cmp .lss (.var 1) (.lit (.ofNat 1))) endT (.fork (.cmp .lss (.lit (.ofNat 32)) (.var 1)) endT endT)))) []
set_option maxRecDepth 1000000 in
theorem pP_run : evCall Tryz.prog plans hubFloods.sumsG 100000 3 [.int .i64 (.var 0), .int .i64 (.var 1), .int .i64 (.var 2)] (s0 [] [[]] [((.negSucc 9223372036854775807), (.ofNat 9223372036854775807)), ((.negSucc 9223372036854775807), (.ofNat 9223372036854775807)), ((.negSucc 9223372036854775807), (.ofNat 0))]) finK = pP_tree := by kernel_rfl
set_option maxRecDepth 1000000 in
theorem pP_ok : okTree pP_tree true [] pP_dead = true := by kernel_rfl
theorem pP_any (a0 : Int) (h0 : (-9223372036854775808) ≤ a0 ∧ a0 ≤ 9223372036854775807) (a1 : Int) (h1 : (-9223372036854775808) ≤ a1 ∧ a1 ≤ 9223372036854775807) (a2 : Int) (h2 : (-9223372036854775808) ≤ a2 ∧ a2 ≤ 0) (w : World) : Calls Tryz.prog 3 #[.int .i64 a0, .int .i64 a1, .int .i64 a2] w fun e w' => e = .returned (.bool true) ∧ Kp [] w w' := by
  exact run_bool (ds := pP_dead) follows_mixed plans_ok hubFloods.sumsG_ok (pP_run) pP_ok (fun i => if i = 0 then a0 else if i = 1 then a1 else if i = 2 then a2 else 0) (fun x hx => by cases hx) (rgOk_cons (⟨h0.1, h0.2⟩) (rgOk_cons (⟨h1.1, h1.2⟩) (rgOk_cons (⟨h2.1, h2.2⟩) (rgOk_nil)))) (fun d hd => by simp [pP_dead] at hd) (xs := [.int .i64 a0, .int .i64 a1, .int .i64 a2]) (by rfl) w

def pQ_dead : List (List (SB × Bool)) := []
noncomputable def pQ_tree : R := fillT (.fork (.cmp .lss (.var 0) (.lit (.ofNat 0))) endT (.fork (.cmp .lss (.lit (.ofNat 300)) (.var 0)) endT (.fork (.cmp .lss (.var 1) (.lit (.ofNat 1))) endT (.fork (.cmp .lss (.lit (.ofNat 32)) (.var 1)) endT endT)))) []
set_option maxRecDepth 1000000 in
theorem pQ_run : evCall Tryz.prog plans hubFloods.sumsG 100000 3 [.int .i64 (.var 0), .int .i64 (.var 1), .int .i64 (.var 2)] (s0 [] [[]] [((.negSucc 9223372036854775807), (.ofNat 9223372036854775807)), ((.negSucc 9223372036854775807), (.ofNat 9223372036854775807)), ((.ofNat 65536), (.ofNat 9223372036854775807))]) finK = pQ_tree := by kernel_rfl
set_option maxRecDepth 1000000 in
theorem pQ_ok : okTree pQ_tree true [] pQ_dead = true := by kernel_rfl
theorem pQ_any (a0 : Int) (h0 : (-9223372036854775808) ≤ a0 ∧ a0 ≤ 9223372036854775807) (a1 : Int) (h1 : (-9223372036854775808) ≤ a1 ∧ a1 ≤ 9223372036854775807) (a2 : Int) (h2 : 65536 ≤ a2 ∧ a2 ≤ 9223372036854775807) (w : World) : Calls Tryz.prog 3 #[.int .i64 a0, .int .i64 a1, .int .i64 a2] w fun e w' => e = .returned (.bool true) ∧ Kp [] w w' := by
  exact run_bool (ds := pQ_dead) follows_mixed plans_ok hubFloods.sumsG_ok (pQ_run) pQ_ok (fun i => if i = 0 then a0 else if i = 1 then a1 else if i = 2 then a2 else 0) (fun x hx => by cases hx) (rgOk_cons (⟨h0.1, h0.2⟩) (rgOk_cons (⟨h1.1, h1.2⟩) (rgOk_cons (⟨h2.1, h2.2⟩) (rgOk_nil)))) (fun d hd => by simp [pQ_dead] at hd) (xs := [.int .i64 a0, .int .i64 a1, .int .i64 a2]) (by rfl) w

def pL_dead : List (List (SB × Bool)) := []
noncomputable def pL_tree : R := fillT endT []
set_option maxRecDepth 1000000 in
theorem pL_run : evCall Tryz.prog plans hubFloods.sumsG 100000 3 [.int .i64 (.var 0), .int .i64 (.var 1), .int .i64 (.var 2)] (s0 [] [[]] [((.negSucc 9223372036854775807), (.negSucc 0)), ((.negSucc 9223372036854775807), (.ofNat 9223372036854775807)), ((.ofNat 1), (.ofNat 65535))]) finK = pL_tree := by kernel_rfl
set_option maxRecDepth 1000000 in
theorem pL_ok : okTree pL_tree true [] pL_dead = true := by kernel_rfl
theorem pL_any (a0 : Int) (h0 : (-9223372036854775808) ≤ a0 ∧ a0 ≤ (-1)) (a1 : Int) (h1 : (-9223372036854775808) ≤ a1 ∧ a1 ≤ 9223372036854775807) (a2 : Int) (h2 : 1 ≤ a2 ∧ a2 ≤ 65535) (w : World) : Calls Tryz.prog 3 #[.int .i64 a0, .int .i64 a1, .int .i64 a2] w fun e w' => e = .returned (.bool true) ∧ Kp [] w w' := by
  exact run_bool (ds := pL_dead) follows_mixed plans_ok hubFloods.sumsG_ok (pL_run) pL_ok (fun i => if i = 0 then a0 else if i = 1 then a1 else if i = 2 then a2 else 0) (fun x hx => by cases hx) (rgOk_cons (⟨h0.1, h0.2⟩) (rgOk_cons (⟨h1.1, h1.2⟩) (rgOk_cons (⟨h2.1, h2.2⟩) (rgOk_nil)))) (fun d hd => by simp [pL_dead] at hd) (xs := [.int .i64 a0, .int .i64 a1, .int .i64 a2]) (by rfl) w

def pH_dead : List (List (SB × Bool)) := []
noncomputable def pH_tree : R := fillT endT []
set_option maxRecDepth 1000000 in
theorem pH_run : evCall Tryz.prog plans hubFloods.sumsG 100000 3 [.int .i64 (.var 0), .int .i64 (.var 1), .int .i64 (.var 2)] (s0 [] [[]] [((.ofNat 301), (.ofNat 9223372036854775807)), ((.negSucc 9223372036854775807), (.ofNat 9223372036854775807)), ((.ofNat 1), (.ofNat 65535))]) finK = pH_tree := by kernel_rfl
set_option maxRecDepth 1000000 in
theorem pH_ok : okTree pH_tree true [] pH_dead = true := by kernel_rfl
theorem pH_any (a0 : Int) (h0 : 301 ≤ a0 ∧ a0 ≤ 9223372036854775807) (a1 : Int) (h1 : (-9223372036854775808) ≤ a1 ∧ a1 ≤ 9223372036854775807) (a2 : Int) (h2 : 1 ≤ a2 ∧ a2 ≤ 65535) (w : World) : Calls Tryz.prog 3 #[.int .i64 a0, .int .i64 a1, .int .i64 a2] w fun e w' => e = .returned (.bool true) ∧ Kp [] w w' := by
  exact run_bool (ds := pH_dead) follows_mixed plans_ok hubFloods.sumsG_ok (pH_run) pH_ok (fun i => if i = 0 then a0 else if i = 1 then a1 else if i = 2 then a2 else 0) (fun x hx => by cases hx) (rgOk_cons (⟨h0.1, h0.2⟩) (rgOk_cons (⟨h1.1, h1.2⟩) (rgOk_cons (⟨h2.1, h2.2⟩) (rgOk_nil)))) (fun d hd => by simp [pH_dead] at hd) (xs := [.int .i64 a0, .int .i64 a1, .int .i64 a2]) (by rfl) w

def pBL_dead : List (List (SB × Bool)) := []
noncomputable def pBL_tree : R := fillT endT []
set_option maxRecDepth 1000000 in
theorem pBL_run : evCall Tryz.prog plans hubFloods.sumsG 100000 3 [.int .i64 (.var 0), .int .i64 (.var 1), .int .i64 (.var 2)] (s0 [] [[]] [((.ofNat 0), (.ofNat 300)), ((.negSucc 9223372036854775807), (.ofNat 0)), ((.ofNat 1), (.ofNat 65535))]) finK = pBL_tree := by kernel_rfl
set_option maxRecDepth 1000000 in
theorem pBL_ok : okTree pBL_tree true [] pBL_dead = true := by kernel_rfl
theorem pBL_any (a0 : Int) (h0 : 0 ≤ a0 ∧ a0 ≤ 300) (a1 : Int) (h1 : (-9223372036854775808) ≤ a1 ∧ a1 ≤ 0) (a2 : Int) (h2 : 1 ≤ a2 ∧ a2 ≤ 65535) (w : World) : Calls Tryz.prog 3 #[.int .i64 a0, .int .i64 a1, .int .i64 a2] w fun e w' => e = .returned (.bool true) ∧ Kp [] w w' := by
  exact run_bool (ds := pBL_dead) follows_mixed plans_ok hubFloods.sumsG_ok (pBL_run) pBL_ok (fun i => if i = 0 then a0 else if i = 1 then a1 else if i = 2 then a2 else 0) (fun x hx => by cases hx) (rgOk_cons (⟨h0.1, h0.2⟩) (rgOk_cons (⟨h1.1, h1.2⟩) (rgOk_cons (⟨h2.1, h2.2⟩) (rgOk_nil)))) (fun d hd => by simp [pBL_dead] at hd) (xs := [.int .i64 a0, .int .i64 a1, .int .i64 a2]) (by rfl) w

def pBH_dead : List (List (SB × Bool)) := []
noncomputable def pBH_tree : R := fillT endT []
set_option maxRecDepth 1000000 in
theorem pBH_run : evCall Tryz.prog plans hubFloods.sumsG 100000 3 [.int .i64 (.var 0), .int .i64 (.var 1), .int .i64 (.var 2)] (s0 [] [[]] [((.ofNat 0), (.ofNat 300)), ((.ofNat 33), (.ofNat 9223372036854775807)), ((.ofNat 1), (.ofNat 65535))]) finK = pBH_tree := by kernel_rfl
set_option maxRecDepth 1000000 in
theorem pBH_ok : okTree pBH_tree true [] pBH_dead = true := by kernel_rfl
theorem pBH_any (a0 : Int) (h0 : 0 ≤ a0 ∧ a0 ≤ 300) (a1 : Int) (h1 : 33 ≤ a1 ∧ a1 ≤ 9223372036854775807) (a2 : Int) (h2 : 1 ≤ a2 ∧ a2 ≤ 65535) (w : World) : Calls Tryz.prog 3 #[.int .i64 a0, .int .i64 a1, .int .i64 a2] w fun e w' => e = .returned (.bool true) ∧ Kp [] w w' := by
  exact run_bool (ds := pBH_dead) follows_mixed plans_ok hubFloods.sumsG_ok (pBH_run) pBH_ok (fun i => if i = 0 then a0 else if i = 1 then a1 else if i = 2 then a2 else 0) (fun x hx => by cases hx) (rgOk_cons (⟨h0.1, h0.2⟩) (rgOk_cons (⟨h1.1, h1.2⟩) (rgOk_cons (⟨h2.1, h2.2⟩) (rgOk_nil)))) (fun d hd => by simp [pBH_dead] at hd) (xs := [.int .i64 a0, .int .i64 a1, .int .i64 a2]) (by rfl) w

end Go.Proofs.YtlmpmmcefdhgmaaGreat.hubFloods

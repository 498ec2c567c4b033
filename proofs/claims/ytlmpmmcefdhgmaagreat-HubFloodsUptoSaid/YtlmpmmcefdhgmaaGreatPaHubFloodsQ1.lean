/-
  HubFloods: runs, F9, F10, F11, F12, F13, F14, F15, F16, F17.
-/
import Derived.Test.YtlmpmmcefdhgmaaGreatSgFS
import Derived.Test.YtlmpmmcefdhgmaaGreatRs
import Derived.Test.YtlmpmmcefdhgmaaGreatPlsOk
set_option linter.unusedVariables false
set_option linter.unusedSimpArgs false
namespace Go.Proofs.YtlmpmmcefdhgmaaGreat.hubFloods
open Go

def pF9_dead : List (List (SB × Bool)) := []
noncomputable def pF9_tree : R := fillT endT []
set_option maxRecDepth 1000000 in
theorem pF9_run : evCall Tryz.prog plans hubFloods.sumsG 100000 3 [.int .i64 (.lit (.ofNat 9)), .int .i64 (.var 1), .int .i64 (.var 2)] (s0 [] [[]] [((.ofNat 9), (.ofNat 9)), ((.ofNat 9), (.ofNat 32)), ((.ofNat 1), (.ofNat 65535))]) finK = pF9_tree := by kernel_rfl
set_option maxRecDepth 1000000 in
theorem pF9_ok : okTree pF9_tree true [] pF9_dead = true := by kernel_rfl
theorem pF9_any (a0 : Int) (h0 : 9 ≤ a0 ∧ a0 ≤ 9) (a1 : Int) (h1 : 9 ≤ a1 ∧ a1 ≤ 32) (a2 : Int) (h2 : 1 ≤ a2 ∧ a2 ≤ 65535) (w : World) : Calls Tryz.prog 3 #[.int .i64 a0, .int .i64 a1, .int .i64 a2] w fun e w' => e = .returned (.bool true) ∧ Kp [] w w' := by
  obtain rfl : a0 = 9 := by omega
  exact run_bool (ds := pF9_dead) follows_mixed plans_ok hubFloods.sumsG_ok (pF9_run) pF9_ok (fun i => if i = 0 then 9 else if i = 1 then a1 else if i = 2 then a2 else 0) (fun x hx => by cases hx) (rgOk_cons (⟨Int.le_refl _, Int.le_refl _⟩) (rgOk_cons (⟨h1.1, h1.2⟩) (rgOk_cons (⟨h2.1, h2.2⟩) (rgOk_nil)))) (fun d hd => by simp [pF9_dead] at hd) (xs := [.int .i64 9, .int .i64 a1, .int .i64 a2]) (by rfl) w

def pF10_dead : List (List (SB × Bool)) := []
noncomputable def pF10_tree : R := fillT endT []
set_option maxRecDepth 1000000 in
theorem pF10_run : evCall Tryz.prog plans hubFloods.sumsG 100000 3 [.int .i64 (.lit (.ofNat 10)), .int .i64 (.var 1), .int .i64 (.var 2)] (s0 [] [[]] [((.ofNat 10), (.ofNat 10)), ((.ofNat 10), (.ofNat 32)), ((.ofNat 1), (.ofNat 65535))]) finK = pF10_tree := by kernel_rfl
set_option maxRecDepth 1000000 in
theorem pF10_ok : okTree pF10_tree true [] pF10_dead = true := by kernel_rfl
theorem pF10_any (a0 : Int) (h0 : 10 ≤ a0 ∧ a0 ≤ 10) (a1 : Int) (h1 : 10 ≤ a1 ∧ a1 ≤ 32) (a2 : Int) (h2 : 1 ≤ a2 ∧ a2 ≤ 65535) (w : World) : Calls Tryz.prog 3 #[.int .i64 a0, .int .i64 a1, .int .i64 a2] w fun e w' => e = .returned (.bool true) ∧ Kp [] w w' := by
  obtain rfl : a0 = 10 := by omega
  exact run_bool (ds := pF10_dead) follows_mixed plans_ok hubFloods.sumsG_ok (pF10_run) pF10_ok (fun i => if i = 0 then 10 else if i = 1 then a1 else if i = 2 then a2 else 0) (fun x hx => by cases hx) (rgOk_cons (⟨Int.le_refl _, Int.le_refl _⟩) (rgOk_cons (⟨h1.1, h1.2⟩) (rgOk_cons (⟨h2.1, h2.2⟩) (rgOk_nil)))) (fun d hd => by simp [pF10_dead] at hd) (xs := [.int .i64 10, .int .i64 a1, .int .i64 a2]) (by rfl) w

def pF11_dead : List (List (SB × Bool)) := []
noncomputable def pF11_tree : R := fillT endT []
set_option maxRecDepth 1000000 in
theorem pF11_run : evCall Tryz.prog plans hubFloods.sumsG 100000 3 [.int .i64 (.lit (.ofNat 11)), .int .i64 (.var 1), .int .i64 (.var 2)] (s0 [] [[]] [((.ofNat 11), (.ofNat 11)), ((.ofNat 11), (.ofNat 32)), ((.ofNat 1), (.ofNat 65535))]) finK = pF11_tree := by kernel_rfl
set_option maxRecDepth 1000000 in
theorem pF11_ok : okTree pF11_tree true [] pF11_dead = true := by kernel_rfl
theorem pF11_any (a0 : Int) (h0 : 11 ≤ a0 ∧ a0 ≤ 11) (a1 : Int) (h1 : 11 ≤ a1 ∧ a1 ≤ 32) (a2 : Int) (h2 : 1 ≤ a2 ∧ a2 ≤ 65535) (w : World) : Calls Tryz.prog 3 #[.int .i64 a0, .int .i64 a1, .int .i64 a2] w fun e w' => e = .returned (.bool true) ∧ Kp [] w w' := by
  obtain rfl : a0 = 11 := by omega
  exact run_bool (ds := pF11_dead) follows_mixed plans_ok hubFloods.sumsG_ok (pF11_run) pF11_ok (fun i => if i = 0 then 11 else if i = 1 then a1 else if i = 2 then a2 else 0) (fun x hx => by cases hx) (rgOk_cons (⟨Int.le_refl _, Int.le_refl _⟩) (rgOk_cons (⟨h1.1, h1.2⟩) (rgOk_cons (⟨h2.1, h2.2⟩) (rgOk_nil)))) (fun d hd => by simp [pF11_dead] at hd) (xs := [.int .i64 11, .int .i64 a1, .int .i64 a2]) (by rfl) w

def pF12_dead : List (List (SB × Bool)) := []
noncomputable def pF12_tree : R := fillT endT []
set_option maxRecDepth 1000000 in
theorem pF12_run : evCall Tryz.prog plans hubFloods.sumsG 100000 3 [.int .i64 (.lit (.ofNat 12)), .int .i64 (.var 1), .int .i64 (.var 2)] (s0 [] [[]] [((.ofNat 12), (.ofNat 12)), ((.ofNat 12), (.ofNat 32)), ((.ofNat 1), (.ofNat 65535))]) finK = pF12_tree := by kernel_rfl
set_option maxRecDepth 1000000 in
theorem pF12_ok : okTree pF12_tree true [] pF12_dead = true := by kernel_rfl
theorem pF12_any (a0 : Int) (h0 : 12 ≤ a0 ∧ a0 ≤ 12) (a1 : Int) (h1 : 12 ≤ a1 ∧ a1 ≤ 32) (a2 : Int) (h2 : 1 ≤ a2 ∧ a2 ≤ 65535) (w : World) : Calls Tryz.prog 3 #[.int .i64 a0, .int .i64 a1, .int .i64 a2] w fun e w' => e = .returned (.bool true) ∧ Kp [] w w' := by
  obtain rfl : a0 = 12 := by omega
  exact run_bool (ds := pF12_dead) follows_mixed plans_ok hubFloods.sumsG_ok (pF12_run) pF12_ok (fun i => if i = 0 then 12 else if i = 1 then a1 else if i = 2 then a2 else 0) (fun x hx => by cases hx) (rgOk_cons (⟨Int.le_refl _, Int.le_refl _⟩) (rgOk_cons (⟨h1.1, h1.2⟩) (rgOk_cons (⟨h2.1, h2.2⟩) (rgOk_nil)))) (fun d hd => by simp [pF12_dead] at hd) (xs := [.int .i64 12, .int .i64 a1, .int .i64 a2]) (by rfl) w

def pF13_dead : List (List (SB × Bool)) := []
noncomputable def pF13_tree : R := fillT endT []
set_option maxRecDepth 1000000 in
theorem pF13_run : evCall Tryz.prog plans hubFloods.sumsG 100000 3 [.int .i64 (.lit (.ofNat 13)), .int .i64 (.var 1), .int .i64 (.var 2)] (s0 [] [[]] [((.ofNat 13), (.ofNat 13)), ((.ofNat 13), (.ofNat 32)), ((.ofNat 1), (.ofNat 65535))]) finK = pF13_tree := by kernel_rfl
set_option maxRecDepth 1000000 in
theorem pF13_ok : okTree pF13_tree true [] pF13_dead = true := by kernel_rfl
theorem pF13_any (a0 : Int) (h0 : 13 ≤ a0 ∧ a0 ≤ 13) (a1 : Int) (h1 : 13 ≤ a1 ∧ a1 ≤ 32) (a2 : Int) (h2 : 1 ≤ a2 ∧ a2 ≤ 65535) (w : World) : Calls Tryz.prog 3 #[.int .i64 a0, .int .i64 a1, .int .i64 a2] w fun e w' => e = .returned (.bool true) ∧ Kp [] w w' := by
  obtain rfl : a0 = 13 := by omega
  exact run_bool (ds := pF13_dead) follows_mixed plans_ok hubFloods.sumsG_ok (pF13_run) pF13_ok (fun i => if i = 0 then 13 else if i = 1 then a1 else if i = 2 then a2 else 0) (fun x hx => by cases hx) (rgOk_cons (⟨Int.le_refl _, Int.le_refl _⟩) (rgOk_cons (⟨h1.1, h1.2⟩) (rgOk_cons (⟨h2.1, h2.2⟩) (rgOk_nil)))) (fun d hd => by simp [pF13_dead] at hd) (xs := [.int .i64 13, .int .i64 a1, .int .i64 a2]) (by rfl) w

def pF14_dead : List (List (SB × Bool)) := []
noncomputable def pF14_tree : R := fillT endT []
set_option maxRecDepth 1000000 in
theorem pF14_run : evCall Tryz.prog plans hubFloods.sumsG 100000 3 [.int .i64 (.lit (.ofNat 14)), .int .i64 (.var 1), .int .i64 (.var 2)] (s0 [] [[]] [((.ofNat 14), (.ofNat 14)), ((.ofNat 14), (.ofNat 32)), ((.ofNat 1), (.ofNat 65535))]) finK = pF14_tree := by kernel_rfl
set_option maxRecDepth 1000000 in
theorem pF14_ok : okTree pF14_tree true [] pF14_dead = true := by kernel_rfl
theorem pF14_any (a0 : Int) (h0 : 14 ≤ a0 ∧ a0 ≤ 14) (a1 : Int) (h1 : 14 ≤ a1 ∧ a1 ≤ 32) (a2 : Int) (h2 : 1 ≤ a2 ∧ a2 ≤ 65535) (w : World) : Calls Tryz.prog 3 #[.int .i64 a0, .int .i64 a1, .int .i64 a2] w fun e w' => e = .returned (.bool true) ∧ Kp [] w w' := by
  obtain rfl : a0 = 14 := by omega
  exact run_bool (ds := pF14_dead) follows_mixed plans_ok hubFloods.sumsG_ok (pF14_run) pF14_ok (fun i => if i = 0 then 14 else if i = 1 then a1 else if i = 2 then a2 else 0) (fun x hx => by cases hx) (rgOk_cons (⟨Int.le_refl _, Int.le_refl _⟩) (rgOk_cons (⟨h1.1, h1.2⟩) (rgOk_cons (⟨h2.1, h2.2⟩) (rgOk_nil)))) (fun d hd => by simp [pF14_dead] at hd) (xs := [.int .i64 14, .int .i64 a1, .int .i64 a2]) (by rfl) w

def pF15_dead : List (List (SB × Bool)) := []
noncomputable def pF15_tree : R := fillT endT []
set_option maxRecDepth 1000000 in
theorem pF15_run : evCall Tryz.prog plans hubFloods.sumsG 100000 3 [.int .i64 (.lit (.ofNat 15)), .int .i64 (.var 1), .int .i64 (.var 2)] (s0 [] [[]] [((.ofNat 15), (.ofNat 15)), ((.ofNat 15), (.ofNat 32)), ((.ofNat 1), (.ofNat 65535))]) finK = pF15_tree := by kernel_rfl
set_option maxRecDepth 1000000 in
theorem pF15_ok : okTree pF15_tree true [] pF15_dead = true := by kernel_rfl
theorem pF15_any (a0 : Int) (h0 : 15 ≤ a0 ∧ a0 ≤ 15) (a1 : Int) (h1 : 15 ≤ a1 ∧ a1 ≤ 32) (a2 : Int) (h2 : 1 ≤ a2 ∧ a2 ≤ 65535) (w : World) : Calls Tryz.prog 3 #[.int .i64 a0, .int .i64 a1, .int .i64 a2] w fun e w' => e = .returned (.bool true) ∧ Kp [] w w' := by
  obtain rfl : a0 = 15 := by omega
  exact run_bool (ds := pF15_dead) follows_mixed plans_ok hubFloods.sumsG_ok (pF15_run) pF15_ok (fun i => if i = 0 then 15 else if i = 1 then a1 else if i = 2 then a2 else 0) (fun x hx => by cases hx) (rgOk_cons (⟨Int.le_refl _, Int.le_refl _⟩) (rgOk_cons (⟨h1.1, h1.2⟩) (rgOk_cons (⟨h2.1, h2.2⟩) (rgOk_nil)))) (fun d hd => by simp [pF15_dead] at hd) (xs := [.int .i64 15, .int .i64 a1, .int .i64 a2]) (by rfl) w

def pF16_dead : List (List (SB × Bool)) := []
noncomputable def pF16_tree : R := fillT endT []
set_option maxRecDepth 1000000 in
theorem pF16_run : evCall Tryz.prog plans hubFloods.sumsG 100000 3 [.int .i64 (.lit (.ofNat 16)), .int .i64 (.var 1), .int .i64 (.var 2)] (s0 [] [[]] [((.ofNat 16), (.ofNat 16)), ((.ofNat 16), (.ofNat 32)), ((.ofNat 1), (.ofNat 65535))]) finK = pF16_tree := by kernel_rfl
set_option maxRecDepth 1000000 in
theorem pF16_ok : okTree pF16_tree true [] pF16_dead = true := by kernel_rfl
theorem pF16_any (a0 : Int) (h0 : 16 ≤ a0 ∧ a0 ≤ 16) (a1 : Int) (h1 : 16 ≤ a1 ∧ a1 ≤ 32) (a2 : Int) (h2 : 1 ≤ a2 ∧ a2 ≤ 65535) (w : World) : Calls Tryz.prog 3 #[.int .i64 a0, .int .i64 a1, .int .i64 a2] w fun e w' => e = .returned (.bool true) ∧ Kp [] w w' := by
  obtain rfl : a0 = 16 := by omega
  exact run_bool (ds := pF16_dead) follows_mixed plans_ok hubFloods.sumsG_ok (pF16_run) pF16_ok (fun i => if i = 0 then 16 else if i = 1 then a1 else if i = 2 then a2 else 0) (fun x hx => by cases hx) (rgOk_cons (⟨Int.le_refl _, Int.le_refl _⟩) (rgOk_cons (⟨h1.1, h1.2⟩) (rgOk_cons (⟨h2.1, h2.2⟩) (rgOk_nil)))) (fun d hd => by simp [pF16_dead] at hd) (xs := [.int .i64 16, .int .i64 a1, .int .i64 a2]) (by rfl) w

def pF17_dead : List (List (SB × Bool)) := []
noncomputable def pF17_tree : R := fillT endT []
set_option maxRecDepth 1000000 in
theorem pF17_run : evCall Tryz.prog plans hubFloods.sumsG 100000 3 [.int .i64 (.lit (.ofNat 17)), .int .i64 (.var 1), .int .i64 (.var 2)] (s0 [] [[]] [((.ofNat 17), (.ofNat 17)), ((.ofNat 17), (.ofNat 32)), ((.ofNat 1), (.ofNat 65535))]) finK = pF17_tree := by kernel_rfl
set_option maxRecDepth 1000000 in
theorem pF17_ok : okTree pF17_tree true [] pF17_dead = true := by kernel_rfl
theorem pF17_any (a0 : Int) (h0 : 17 ≤ a0 ∧ a0 ≤ 17) (a1 : Int) (h1 : 17 ≤ a1 ∧ a1 ≤ 32) (a2 : Int) (h2 : 1 ≤ a2 ∧ a2 ≤ 65535) (w : World) : Calls Tryz.prog 3 #[.int .i64 a0, .int .i64 a1, .int .i64 a2] w fun e w' => e = .returned (.bool true) ∧ Kp [] w w' := by
  obtain rfl : a0 = 17 := by omega
  exact run_bool (ds := pF17_dead) follows_mixed plans_ok hubFloods.sumsG_ok (pF17_run) pF17_ok (fun i => if i = 0 then 17 else if i = 1 then a1 else if i = 2 then a2 else 0) (fun x hx => by cases hx) (rgOk_cons (⟨Int.le_refl _, Int.le_refl _⟩) (rgOk_cons (⟨h1.1, h1.2⟩) (rgOk_cons (⟨h2.1, h2.2⟩) (rgOk_nil)))) (fun d hd => by simp [pF17_dead] at hd) (xs := [.int .i64 17, .int .i64 a1, .int .i64 a2]) (by rfl) w

end Go.Proofs.YtlmpmmcefdhgmaaGreat.hubFloods

/-
  HubFloods: runs, F18, F19, F20, F21, F22, F23, F24, F25, F26.
-/
import Derived.Test.YtlmpmmcefdhgmaaGreatSgFS
import Derived.Test.YtlmpmmcefdhgmaaGreatRs
import Derived.Test.YtlmpmmcefdhgmaaGreatPlsOk
set_option linter.unusedVariables false
set_option linter.unusedSimpArgs false
namespace Go.Proofs.YtlmpmmcefdhgmaaGreat.hubFloods
open Go

def pF18_dead : List (List (SB × Bool)) := []
noncomputable def pF18_tree : R := fillT endT []
set_option maxRecDepth 1000000 in
theorem pF18_run : evCall Tryz.prog plans hubFloods.sumsG 100000 3 [.int .i64 (.lit (.ofNat 18)), .int .i64 (.var 1), .int .i64 (.var 2)] (s0 [] [[]] [((.ofNat 18), (.ofNat 18)), ((.ofNat 18), (.ofNat 32)), ((.ofNat 1), (.ofNat 65535))]) finK = pF18_tree := by kernel_rfl
set_option maxRecDepth 1000000 in
theorem pF18_ok : okTree pF18_tree true [] pF18_dead = true := by kernel_rfl
theorem pF18_any (a0 : Int) (h0 : 18 ≤ a0 ∧ a0 ≤ 18) (a1 : Int) (h1 : 18 ≤ a1 ∧ a1 ≤ 32) (a2 : Int) (h2 : 1 ≤ a2 ∧ a2 ≤ 65535) (w : World) : Calls Tryz.prog 3 #[.int .i64 a0, .int .i64 a1, .int .i64 a2] w fun e w' => e = .returned (.bool true) ∧ Kp [] w w' := by
  obtain rfl : a0 = 18 := by omega
  exact run_bool (ds := pF18_dead) follows_mixed plans_ok hubFloods.sumsG_ok (pF18_run) pF18_ok (fun i => if i = 0 then 18 else if i = 1 then a1 else if i = 2 then a2 else 0) (fun x hx => by cases hx) (rgOk_cons (⟨Int.le_refl _, Int.le_refl _⟩) (rgOk_cons (⟨h1.1, h1.2⟩) (rgOk_cons (⟨h2.1, h2.2⟩) (rgOk_nil)))) (fun d hd => by simp [pF18_dead] at hd) (xs := [.int .i64 18, .int .i64 a1, .int .i64 a2]) (by rfl) w

def pF19_dead : List (List (SB × Bool)) := []
noncomputable def pF19_tree : R := fillT endT []
set_option maxRecDepth 1000000 in
theorem pF19_run : evCall Tryz.prog plans hubFloods.sumsG 100000 3 [.int .i64 (.lit (.ofNat 19)), .int .i64 (.var 1), .int .i64 (.var 2)] (s0 [] [[]] [((.ofNat 19), (.ofNat 19)), ((.ofNat 19), (.ofNat 32)), ((.ofNat 1), (.ofNat 65535))]) finK = pF19_tree := by kernel_rfl
set_option maxRecDepth 1000000 in
theorem pF19_ok : okTree pF19_tree true [] pF19_dead = true := by kernel_rfl
theorem pF19_any (a0 : Int) (h0 : 19 ≤ a0 ∧ a0 ≤ 19) (a1 : Int) (h1 : 19 ≤ a1 ∧ a1 ≤ 32) (a2 : Int) (h2 : 1 ≤ a2 ∧ a2 ≤ 65535) (w : World) : Calls Tryz.prog 3 #[.int .i64 a0, .int .i64 a1, .int .i64 a2] w fun e w' => e = .returned (.bool true) ∧ Kp [] w w' := by
  obtain rfl : a0 = 19 := by omega
  exact run_bool (ds := pF19_dead) follows_mixed plans_ok hubFloods.sumsG_ok (pF19_run) pF19_ok (fun i => if i = 0 then 19 else if i = 1 then a1 else if i = 2 then a2 else 0) (fun x hx => by cases hx) (rgOk_cons (⟨Int.le_refl _, Int.le_refl _⟩) (rgOk_cons (⟨h1.1, h1.2⟩) (rgOk_cons (⟨h2.1, h2.2⟩) (rgOk_nil)))) (fun d hd => by simp [pF19_dead] at hd) (xs := [.int .i64 19, .int .i64 a1, .int .i64 a2]) (by rfl) w

def pF20_dead : List (List (SB × Bool)) := []
noncomputable def pF20_tree : R := fillT endT []
set_option maxRecDepth 1000000 in
theorem pF20_run : evCall Tryz.prog plans hubFloods.sumsG 100000 3 [.int .i64 (.lit (.ofNat 20)), .int .i64 (.var 1), .int .i64 (.var 2)] (s0 [] [[]] [((.ofNat 20), (.ofNat 20)), ((.ofNat 20), (.ofNat 32)), ((.ofNat 1), (.ofNat 65535))]) finK = pF20_tree := by kernel_rfl
set_option maxRecDepth 1000000 in
theorem pF20_ok : okTree pF20_tree true [] pF20_dead = true := by kernel_rfl
theorem pF20_any (a0 : Int) (h0 : 20 ≤ a0 ∧ a0 ≤ 20) (a1 : Int) (h1 : 20 ≤ a1 ∧ a1 ≤ 32) (a2 : Int) (h2 : 1 ≤ a2 ∧ a2 ≤ 65535) (w : World) : Calls Tryz.prog 3 #[.int .i64 a0, .int .i64 a1, .int .i64 a2] w fun e w' => e = .returned (.bool true) ∧ Kp [] w w' := by
  obtain rfl : a0 = 20 := by omega
  exact run_bool (ds := pF20_dead) follows_mixed plans_ok hubFloods.sumsG_ok (pF20_run) pF20_ok (fun i => if i = 0 then 20 else if i = 1 then a1 else if i = 2 then a2 else 0) (fun x hx => by cases hx) (rgOk_cons (⟨Int.le_refl _, Int.le_refl _⟩) (rgOk_cons (⟨h1.1, h1.2⟩) (rgOk_cons (⟨h2.1, h2.2⟩) (rgOk_nil)))) (fun d hd => by simp [pF20_dead] at hd) (xs := [.int .i64 20, .int .i64 a1, .int .i64 a2]) (by rfl) w

def pF21_dead : List (List (SB × Bool)) := []
noncomputable def pF21_tree : R := fillT endT []
set_option maxRecDepth 1000000 in
theorem pF21_run : evCall Tryz.prog plans hubFloods.sumsG 100000 3 [.int .i64 (.lit (.ofNat 21)), .int .i64 (.var 1), .int .i64 (.var 2)] (s0 [] [[]] [((.ofNat 21), (.ofNat 21)), ((.ofNat 21), (.ofNat 32)), ((.ofNat 1), (.ofNat 65535))]) finK = pF21_tree := by kernel_rfl
set_option maxRecDepth 1000000 in
theorem pF21_ok : okTree pF21_tree true [] pF21_dead = true := by kernel_rfl
theorem pF21_any (a0 : Int) (h0 : 21 ≤ a0 ∧ a0 ≤ 21) (a1 : Int) (h1 : 21 ≤ a1 ∧ a1 ≤ 32) (a2 : Int) (h2 : 1 ≤ a2 ∧ a2 ≤ 65535) (w : World) : Calls Tryz.prog 3 #[.int .i64 a0, .int .i64 a1, .int .i64 a2] w fun e w' => e = .returned (.bool true) ∧ Kp [] w w' := by
  obtain rfl : a0 = 21 := by omega
  exact run_bool (ds := pF21_dead) follows_mixed plans_ok hubFloods.sumsG_ok (pF21_run) pF21_ok (fun i => if i = 0 then 21 else if i = 1 then a1 else if i = 2 then a2 else 0) (fun x hx => by cases hx) (rgOk_cons (⟨Int.le_refl _, Int.le_refl _⟩) (rgOk_cons (⟨h1.1, h1.2⟩) (rgOk_cons (⟨h2.1, h2.2⟩) (rgOk_nil)))) (fun d hd => by simp [pF21_dead] at hd) (xs := [.int .i64 21, .int .i64 a1, .int .i64 a2]) (by rfl) w

def pF22_dead : List (List (SB × Bool)) := []
noncomputable def pF22_tree : R := fillT endT []
set_option maxRecDepth 1000000 in
theorem pF22_run : evCall Tryz.prog plans hubFloods.sumsG 100000 3 [.int .i64 (.lit (.ofNat 22)), .int .i64 (.var 1), .int .i64 (.var 2)] (s0 [] [[]] [((.ofNat 22), (.ofNat 22)), ((.ofNat 22), (.ofNat 32)), ((.ofNat 1), (.ofNat 65535))]) finK = pF22_tree := by kernel_rfl
set_option maxRecDepth 1000000 in
theorem pF22_ok : okTree pF22_tree true [] pF22_dead = true := by kernel_rfl
theorem pF22_any (a0 : Int) (h0 : 22 ≤ a0 ∧ a0 ≤ 22) (a1 : Int) (h1 : 22 ≤ a1 ∧ a1 ≤ 32) (a2 : Int) (h2 : 1 ≤ a2 ∧ a2 ≤ 65535) (w : World) : Calls Tryz.prog 3 #[.int .i64 a0, .int .i64 a1, .int .i64 a2] w fun e w' => e = .returned (.bool true) ∧ Kp [] w w' := by
  obtain rfl : a0 = 22 := by omega
  exact run_bool (ds := pF22_dead) follows_mixed plans_ok hubFloods.sumsG_ok (pF22_run) pF22_ok (fun i => if i = 0 then 22 else if i = 1 then a1 else if i = 2 then a2 else 0) (fun x hx => by cases hx) (rgOk_cons (⟨Int.le_refl _, Int.le_refl _⟩) (rgOk_cons (⟨h1.1, h1.2⟩) (rgOk_cons (⟨h2.1, h2.2⟩) (rgOk_nil)))) (fun d hd => by simp [pF22_dead] at hd) (xs := [.int .i64 22, .int .i64 a1, .int .i64 a2]) (by rfl) w

def pF23_dead : List (List (SB × Bool)) := []
noncomputable def pF23_tree : R := fillT endT []
set_option maxRecDepth 1000000 in
theorem pF23_run : evCall Tryz.prog plans hubFloods.sumsG 100000 3 [.int .i64 (.lit (.ofNat 23)), .int .i64 (.var 1), .int .i64 (.var 2)] (s0 [] [[]] [((.ofNat 23), (.ofNat 23)), ((.ofNat 23), (.ofNat 32)), ((.ofNat 1), (.ofNat 65535))]) finK = pF23_tree := by kernel_rfl
set_option maxRecDepth 1000000 in
theorem pF23_ok : okTree pF23_tree true [] pF23_dead = true := by kernel_rfl
theorem pF23_any (a0 : Int) (h0 : 23 ≤ a0 ∧ a0 ≤ 23) (a1 : Int) (h1 : 23 ≤ a1 ∧ a1 ≤ 32) (a2 : Int) (h2 : 1 ≤ a2 ∧ a2 ≤ 65535) (w : World) : Calls Tryz.prog 3 #[.int .i64 a0, .int .i64 a1, .int .i64 a2] w fun e w' => e = .returned (.bool true) ∧ Kp [] w w' := by
  obtain rfl : a0 = 23 := by omega
  exact run_bool (ds := pF23_dead) follows_mixed plans_ok hubFloods.sumsG_ok (pF23_run) pF23_ok (fun i => if i = 0 then 23 else if i = 1 then a1 else if i = 2 then a2 else 0) (fun x hx => by cases hx) (rgOk_cons (⟨Int.le_refl _, Int.le_refl _⟩) (rgOk_cons (⟨h1.1, h1.2⟩) (rgOk_cons (⟨h2.1, h2.2⟩) (rgOk_nil)))) (fun d hd => by simp [pF23_dead] at hd) (xs := [.int .i64 23, .int .i64 a1, .int .i64 a2]) (by rfl) w

def pF24_dead : List (List (SB × Bool)) := []
noncomputable def pF24_tree : R := fillT endT []
set_option maxRecDepth 1000000 in
theorem pF24_run : evCall Tryz.prog plans hubFloods.sumsG 100000 3 [.int .i64 (.lit (.ofNat 24)), .int .i64 (.var 1), .int .i64 (.var 2)] (s0 [] [[]] [((.ofNat 24), (.ofNat 24)), ((.ofNat 24), (.ofNat 32)), ((.ofNat 1), (.ofNat 65535))]) finK = pF24_tree := by kernel_rfl
set_option maxRecDepth 1000000 in
theorem pF24_ok : okTree pF24_tree true [] pF24_dead = true := by kernel_rfl
theorem pF24_any (a0 : Int) (h0 : 24 ≤ a0 ∧ a0 ≤ 24) (a1 : Int) (h1 : 24 ≤ a1 ∧ a1 ≤ 32) (a2 : Int) (h2 : 1 ≤ a2 ∧ a2 ≤ 65535) (w : World) : Calls Tryz.prog 3 #[.int .i64 a0, .int .i64 a1, .int .i64 a2] w fun e w' => e = .returned (.bool true) ∧ Kp [] w w' := by
  obtain rfl : a0 = 24 := by omega
  exact run_bool (ds := pF24_dead) follows_mixed plans_ok hubFloods.sumsG_ok (pF24_run) pF24_ok (fun i => if i = 0 then 24 else if i = 1 then a1 else if i = 2 then a2 else 0) (fun x hx => by cases hx) (rgOk_cons (⟨Int.le_refl _, Int.le_refl _⟩) (rgOk_cons (⟨h1.1, h1.2⟩) (rgOk_cons (⟨h2.1, h2.2⟩) (rgOk_nil)))) (fun d hd => by simp [pF24_dead] at hd) (xs := [.int .i64 24, .int .i64 a1, .int .i64 a2]) (by rfl) w

def pF25_dead : List (List (SB × Bool)) := []
noncomputable def pF25_tree : R := fillT endT []
set_option maxRecDepth 1000000 in
theorem pF25_run : evCall Tryz.prog plans hubFloods.sumsG 100000 3 [.int .i64 (.lit (.ofNat 25)), .int .i64 (.var 1), .int .i64 (.var 2)] (s0 [] [[]] [((.ofNat 25), (.ofNat 25)), ((.ofNat 25), (.ofNat 32)), ((.ofNat 1), (.ofNat 65535))]) finK = pF25_tree := by kernel_rfl
set_option maxRecDepth 1000000 in
theorem pF25_ok : okTree pF25_tree true [] pF25_dead = true := by kernel_rfl
theorem pF25_any (a0 : Int) (h0 : 25 ≤ a0 ∧ a0 ≤ 25) (a1 : Int) (h1 : 25 ≤ a1 ∧ a1 ≤ 32) (a2 : Int) (h2 : 1 ≤ a2 ∧ a2 ≤ 65535) (w : World) : Calls Tryz.prog 3 #[.int .i64 a0, .int .i64 a1, .int .i64 a2] w fun e w' => e = .returned (.bool true) ∧ Kp [] w w' := by
  obtain rfl : a0 = 25 := by omega
  exact run_bool (ds := pF25_dead) follows_mixed plans_ok hubFloods.sumsG_ok (pF25_run) pF25_ok (fun i => if i = 0 then 25 else if i = 1 then a1 else if i = 2 then a2 else 0) (fun x hx => by cases hx) (rgOk_cons (⟨Int.le_refl _, Int.le_refl _⟩) (rgOk_cons (⟨h1.1, h1.2⟩) (rgOk_cons (⟨h2.1, h2.2⟩) (rgOk_nil)))) (fun d hd => by simp [pF25_dead] at hd) (xs := [.int .i64 25, .int .i64 a1, .int .i64 a2]) (by rfl) w

def pF26_dead : List (List (SB × Bool)) := []
noncomputable def pF26_tree : R := fillT endT []
set_option maxRecDepth 1000000 in
theorem pF26_run : evCall Tryz.prog plans hubFloods.sumsG 100000 3 [.int .i64 (.lit (.ofNat 26)), .int .i64 (.var 1), .int .i64 (.var 2)] (s0 [] [[]] [((.ofNat 26), (.ofNat 26)), ((.ofNat 26), (.ofNat 32)), ((.ofNat 1), (.ofNat 65535))]) finK = pF26_tree := by kernel_rfl
set_option maxRecDepth 1000000 in
theorem pF26_ok : okTree pF26_tree true [] pF26_dead = true := by kernel_rfl
theorem pF26_any (a0 : Int) (h0 : 26 ≤ a0 ∧ a0 ≤ 26) (a1 : Int) (h1 : 26 ≤ a1 ∧ a1 ≤ 32) (a2 : Int) (h2 : 1 ≤ a2 ∧ a2 ≤ 65535) (w : World) : Calls Tryz.prog 3 #[.int .i64 a0, .int .i64 a1, .int .i64 a2] w fun e w' => e = .returned (.bool true) ∧ Kp [] w w' := by
  obtain rfl : a0 = 26 := by omega
  exact run_bool (ds := pF26_dead) follows_mixed plans_ok hubFloods.sumsG_ok (pF26_run) pF26_ok (fun i => if i = 0 then 26 else if i = 1 then a1 else if i = 2 then a2 else 0) (fun x hx => by cases hx) (rgOk_cons (⟨Int.le_refl _, Int.le_refl _⟩) (rgOk_cons (⟨h1.1, h1.2⟩) (rgOk_cons (⟨h2.1, h2.2⟩) (rgOk_nil)))) (fun d hd => by simp [pF26_dead] at hd) (xs := [.int .i64 26, .int .i64 a1, .int .i64 a2]) (by rfl) w

end Go.Proofs.YtlmpmmcefdhgmaaGreat.hubFloods

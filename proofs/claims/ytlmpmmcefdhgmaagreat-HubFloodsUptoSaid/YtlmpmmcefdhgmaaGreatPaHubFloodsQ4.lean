/-
  HubFloods: runs, M4, M5, M6, M7, M8, M9, M10, M11, M12.
-/
import Derived.Test.YtlmpmmcefdhgmaaGreatSgFS
import Derived.Test.YtlmpmmcefdhgmaaGreatRs
import Derived.Test.YtlmpmmcefdhgmaaGreatPlsOk
import Derived.Test.YtlmpmmcefdhgmaaGreatAccFOk
import Derived.Test.YtlmpmmcefdhgmaaGreatAccFOk
import Derived.Test.YtlmpmmcefdhgmaaGreatAccFOk
import Derived.Test.YtlmpmmcefdhgmaaGreatAccFOk
import Derived.Test.YtlmpmmcefdhgmaaGreatAccFOk
import Derived.Test.YtlmpmmcefdhgmaaGreatAccFOk
import Derived.Test.YtlmpmmcefdhgmaaGreatAccFOk
import Derived.Test.YtlmpmmcefdhgmaaGreatAccFOk
import Derived.Test.YtlmpmmcefdhgmaaGreatAccFOk
set_option linter.unusedVariables false
set_option linter.unusedSimpArgs false
namespace Go.Proofs.YtlmpmmcefdhgmaaGreat.hubFloods
open Go

def pM4_dead : List (List (SB × Bool)) := []
noncomputable def pM4_tree : R := fillT endT []
set_option maxRecDepth 1000000 in
theorem pM4_run : evCall Tryz.prog plansM4 hubFloods.sumsG 100000 3 [.int .i64 (.var 0), .int .i64 (.var 1), .int .i64 (.var 2)] (s0 [] [[]] [((.ofNat 5), (.ofNat 300)), ((.ofNat 4), (.ofNat 4)), ((.ofNat 1), (.ofNat 65535)), ((.ofNat 4), (.ofNat 299))]) finK = pM4_tree := by kernel_rfl
set_option maxRecDepth 1000000 in
theorem pM4_ok : okTree pM4_tree true [] pM4_dead = true := by kernel_rfl
theorem pM4_any (a0 : Int) (h0 : 5 ≤ a0 ∧ a0 ≤ 300) (a1 : Int) (h1 : 4 ≤ a1 ∧ a1 ≤ 4) (a2 : Int) (h2 : 1 ≤ a2 ∧ a2 ≤ 65535) (w : World) : Calls Tryz.prog 3 #[.int .i64 a0, .int .i64 a1, .int .i64 a2] w fun e w' => e = .returned (.bool true) ∧ Kp [] w w' := by
  obtain rfl : a1 = 4 := by omega
  exact run_bool (ds := pM4_dead) follows_mixed plansM4_ok hubFloods.sumsG_ok (pM4_run) pM4_ok (fun i => if i = 0 then a0 else if i = 1 then 4 else if i = 2 then a2 else if i = 3 then 4 else 0) (fun x hx => by cases hx) (rgOk_cons (⟨h0.1, h0.2⟩) (rgOk_cons (⟨Int.le_refl _, Int.le_refl _⟩) (rgOk_cons (⟨h2.1, h2.2⟩) (rgOk_cons (⟨Int.le_refl _, (by decide : (4 : Int) ≤ 299)⟩) (rgOk_nil))))) (fun d hd => by simp [pM4_dead] at hd) (xs := [.int .i64 a0, .int .i64 4, .int .i64 a2]) (by rfl) w

def pM5_dead : List (List (SB × Bool)) := []
noncomputable def pM5_tree : R := fillT endT []
set_option maxRecDepth 1000000 in
theorem pM5_run : evCall Tryz.prog plansM5 hubFloods.sumsG 100000 3 [.int .i64 (.var 0), .int .i64 (.var 1), .int .i64 (.var 2)] (s0 [] [[]] [((.ofNat 6), (.ofNat 300)), ((.ofNat 5), (.ofNat 5)), ((.ofNat 1), (.ofNat 65535)), ((.ofNat 5), (.ofNat 299))]) finK = pM5_tree := by kernel_rfl
set_option maxRecDepth 1000000 in
theorem pM5_ok : okTree pM5_tree true [] pM5_dead = true := by kernel_rfl
theorem pM5_any (a0 : Int) (h0 : 6 ≤ a0 ∧ a0 ≤ 300) (a1 : Int) (h1 : 5 ≤ a1 ∧ a1 ≤ 5) (a2 : Int) (h2 : 1 ≤ a2 ∧ a2 ≤ 65535) (w : World) : Calls Tryz.prog 3 #[.int .i64 a0, .int .i64 a1, .int .i64 a2] w fun e w' => e = .returned (.bool true) ∧ Kp [] w w' := by
  obtain rfl : a1 = 5 := by omega
  exact run_bool (ds := pM5_dead) follows_mixed plansM5_ok hubFloods.sumsG_ok (pM5_run) pM5_ok (fun i => if i = 0 then a0 else if i = 1 then 5 else if i = 2 then a2 else if i = 3 then 5 else 0) (fun x hx => by cases hx) (rgOk_cons (⟨h0.1, h0.2⟩) (rgOk_cons (⟨Int.le_refl _, Int.le_refl _⟩) (rgOk_cons (⟨h2.1, h2.2⟩) (rgOk_cons (⟨Int.le_refl _, (by decide : (5 : Int) ≤ 299)⟩) (rgOk_nil))))) (fun d hd => by simp [pM5_dead] at hd) (xs := [.int .i64 a0, .int .i64 5, .int .i64 a2]) (by rfl) w

def pM6_dead : List (List (SB × Bool)) := []
noncomputable def pM6_tree : R := fillT endT []
set_option maxRecDepth 1000000 in
theorem pM6_run : evCall Tryz.prog plansM6 hubFloods.sumsG 100000 3 [.int .i64 (.var 0), .int .i64 (.var 1), .int .i64 (.var 2)] (s0 [] [[]] [((.ofNat 7), (.ofNat 300)), ((.ofNat 6), (.ofNat 6)), ((.ofNat 1), (.ofNat 65535)), ((.ofNat 6), (.ofNat 299))]) finK = pM6_tree := by kernel_rfl
set_option maxRecDepth 1000000 in
theorem pM6_ok : okTree pM6_tree true [] pM6_dead = true := by kernel_rfl
theorem pM6_any (a0 : Int) (h0 : 7 ≤ a0 ∧ a0 ≤ 300) (a1 : Int) (h1 : 6 ≤ a1 ∧ a1 ≤ 6) (a2 : Int) (h2 : 1 ≤ a2 ∧ a2 ≤ 65535) (w : World) : Calls Tryz.prog 3 #[.int .i64 a0, .int .i64 a1, .int .i64 a2] w fun e w' => e = .returned (.bool true) ∧ Kp [] w w' := by
  obtain rfl : a1 = 6 := by omega
  exact run_bool (ds := pM6_dead) follows_mixed plansM6_ok hubFloods.sumsG_ok (pM6_run) pM6_ok (fun i => if i = 0 then a0 else if i = 1 then 6 else if i = 2 then a2 else if i = 3 then 6 else 0) (fun x hx => by cases hx) (rgOk_cons (⟨h0.1, h0.2⟩) (rgOk_cons (⟨Int.le_refl _, Int.le_refl _⟩) (rgOk_cons (⟨h2.1, h2.2⟩) (rgOk_cons (⟨Int.le_refl _, (by decide : (6 : Int) ≤ 299)⟩) (rgOk_nil))))) (fun d hd => by simp [pM6_dead] at hd) (xs := [.int .i64 a0, .int .i64 6, .int .i64 a2]) (by rfl) w

def pM7_dead : List (List (SB × Bool)) := []
noncomputable def pM7_tree : R := fillT endT []
set_option maxRecDepth 1000000 in
theorem pM7_run : evCall Tryz.prog plansM7 hubFloods.sumsG 100000 3 [.int .i64 (.var 0), .int .i64 (.var 1), .int .i64 (.var 2)] (s0 [] [[]] [((.ofNat 8), (.ofNat 300)), ((.ofNat 7), (.ofNat 7)), ((.ofNat 1), (.ofNat 65535)), ((.ofNat 7), (.ofNat 299))]) finK = pM7_tree := by kernel_rfl
set_option maxRecDepth 1000000 in
theorem pM7_ok : okTree pM7_tree true [] pM7_dead = true := by kernel_rfl
theorem pM7_any (a0 : Int) (h0 : 8 ≤ a0 ∧ a0 ≤ 300) (a1 : Int) (h1 : 7 ≤ a1 ∧ a1 ≤ 7) (a2 : Int) (h2 : 1 ≤ a2 ∧ a2 ≤ 65535) (w : World) : Calls Tryz.prog 3 #[.int .i64 a0, .int .i64 a1, .int .i64 a2] w fun e w' => e = .returned (.bool true) ∧ Kp [] w w' := by
  obtain rfl : a1 = 7 := by omega
  exact run_bool (ds := pM7_dead) follows_mixed plansM7_ok hubFloods.sumsG_ok (pM7_run) pM7_ok (fun i => if i = 0 then a0 else if i = 1 then 7 else if i = 2 then a2 else if i = 3 then 7 else 0) (fun x hx => by cases hx) (rgOk_cons (⟨h0.1, h0.2⟩) (rgOk_cons (⟨Int.le_refl _, Int.le_refl _⟩) (rgOk_cons (⟨h2.1, h2.2⟩) (rgOk_cons (⟨Int.le_refl _, (by decide : (7 : Int) ≤ 299)⟩) (rgOk_nil))))) (fun d hd => by simp [pM7_dead] at hd) (xs := [.int .i64 a0, .int .i64 7, .int .i64 a2]) (by rfl) w

def pM8_dead : List (List (SB × Bool)) := []
noncomputable def pM8_tree : R := fillT endT []
set_option maxRecDepth 1000000 in
theorem pM8_run : evCall Tryz.prog plansM8 hubFloods.sumsG 100000 3 [.int .i64 (.var 0), .int .i64 (.var 1), .int .i64 (.var 2)] (s0 [] [[]] [((.ofNat 9), (.ofNat 300)), ((.ofNat 8), (.ofNat 8)), ((.ofNat 1), (.ofNat 65535)), ((.ofNat 8), (.ofNat 299))]) finK = pM8_tree := by kernel_rfl
set_option maxRecDepth 1000000 in
theorem pM8_ok : okTree pM8_tree true [] pM8_dead = true := by kernel_rfl
theorem pM8_any (a0 : Int) (h0 : 9 ≤ a0 ∧ a0 ≤ 300) (a1 : Int) (h1 : 8 ≤ a1 ∧ a1 ≤ 8) (a2 : Int) (h2 : 1 ≤ a2 ∧ a2 ≤ 65535) (w : World) : Calls Tryz.prog 3 #[.int .i64 a0, .int .i64 a1, .int .i64 a2] w fun e w' => e = .returned (.bool true) ∧ Kp [] w w' := by
  obtain rfl : a1 = 8 := by omega
  exact run_bool (ds := pM8_dead) follows_mixed plansM8_ok hubFloods.sumsG_ok (pM8_run) pM8_ok (fun i => if i = 0 then a0 else if i = 1 then 8 else if i = 2 then a2 else if i = 3 then 8 else 0) (fun x hx => by cases hx) (rgOk_cons (⟨h0.1, h0.2⟩) (rgOk_cons (⟨Int.le_refl _, Int.le_refl _⟩) (rgOk_cons (⟨h2.1, h2.2⟩) (rgOk_cons (⟨Int.le_refl _, (by decide : (8 : Int) ≤ 299)⟩) (rgOk_nil))))) (fun d hd => by simp [pM8_dead] at hd) (xs := [.int .i64 a0, .int .i64 8, .int .i64 a2]) (by rfl) w

def pM9_dead : List (List (SB × Bool)) := []
noncomputable def pM9_tree : R := fillT endT []
set_option maxRecDepth 1000000 in
theorem pM9_run : evCall Tryz.prog plansM9 hubFloods.sumsG 100000 3 [.int .i64 (.var 0), .int .i64 (.var 1), .int .i64 (.var 2)] (s0 [] [[]] [((.ofNat 10), (.ofNat 300)), ((.ofNat 9), (.ofNat 9)), ((.ofNat 1), (.ofNat 65535)), ((.ofNat 9), (.ofNat 299))]) finK = pM9_tree := by kernel_rfl
set_option maxRecDepth 1000000 in
theorem pM9_ok : okTree pM9_tree true [] pM9_dead = true := by kernel_rfl
theorem pM9_any (a0 : Int) (h0 : 10 ≤ a0 ∧ a0 ≤ 300) (a1 : Int) (h1 : 9 ≤ a1 ∧ a1 ≤ 9) (a2 : Int) (h2 : 1 ≤ a2 ∧ a2 ≤ 65535) (w : World) : Calls Tryz.prog 3 #[.int .i64 a0, .int .i64 a1, .int .i64 a2] w fun e w' => e = .returned (.bool true) ∧ Kp [] w w' := by
  obtain rfl : a1 = 9 := by omega
  exact run_bool (ds := pM9_dead) follows_mixed plansM9_ok hubFloods.sumsG_ok (pM9_run) pM9_ok (fun i => if i = 0 then a0 else if i = 1 then 9 else if i = 2 then a2 else if i = 3 then 9 else 0) (fun x hx => by cases hx) (rgOk_cons (⟨h0.1, h0.2⟩) (rgOk_cons (⟨Int.le_refl _, Int.le_refl _⟩) (rgOk_cons (⟨h2.1, h2.2⟩) (rgOk_cons (⟨Int.le_refl _, (by decide : (9 : Int) ≤ 299)⟩) (rgOk_nil))))) (fun d hd => by simp [pM9_dead] at hd) (xs := [.int .i64 a0, .int .i64 9, .int .i64 a2]) (by rfl) w

def pM10_dead : List (List (SB × Bool)) := []
noncomputable def pM10_tree : R := fillT endT []
set_option maxRecDepth 1000000 in
theorem pM10_run : evCall Tryz.prog plansM10 hubFloods.sumsG 100000 3 [.int .i64 (.var 0), .int .i64 (.var 1), .int .i64 (.var 2)] (s0 [] [[]] [((.ofNat 11), (.ofNat 300)), ((.ofNat 10), (.ofNat 10)), ((.ofNat 1), (.ofNat 65535)), ((.ofNat 10), (.ofNat 299))]) finK = pM10_tree := by kernel_rfl
set_option maxRecDepth 1000000 in
theorem pM10_ok : okTree pM10_tree true [] pM10_dead = true := by kernel_rfl
theorem pM10_any (a0 : Int) (h0 : 11 ≤ a0 ∧ a0 ≤ 300) (a1 : Int) (h1 : 10 ≤ a1 ∧ a1 ≤ 10) (a2 : Int) (h2 : 1 ≤ a2 ∧ a2 ≤ 65535) (w : World) : Calls Tryz.prog 3 #[.int .i64 a0, .int .i64 a1, .int .i64 a2] w fun e w' => e = .returned (.bool true) ∧ Kp [] w w' := by
  obtain rfl : a1 = 10 := by omega
  exact run_bool (ds := pM10_dead) follows_mixed plansM10_ok hubFloods.sumsG_ok (pM10_run) pM10_ok (fun i => if i = 0 then a0 else if i = 1 then 10 else if i = 2 then a2 else if i = 3 then 10 else 0) (fun x hx => by cases hx) (rgOk_cons (⟨h0.1, h0.2⟩) (rgOk_cons (⟨Int.le_refl _, Int.le_refl _⟩) (rgOk_cons (⟨h2.1, h2.2⟩) (rgOk_cons (⟨Int.le_refl _, (by decide : (10 : Int) ≤ 299)⟩) (rgOk_nil))))) (fun d hd => by simp [pM10_dead] at hd) (xs := [.int .i64 a0, .int .i64 10, .int .i64 a2]) (by rfl) w

def pM11_dead : List (List (SB × Bool)) := []
noncomputable def pM11_tree : R := fillT endT []
set_option maxRecDepth 1000000 in
theorem pM11_run : evCall Tryz.prog plansM11 hubFloods.sumsG 100000 3 [.int .i64 (.var 0), .int .i64 (.var 1), .int .i64 (.var 2)] (s0 [] [[]] [((.ofNat 12), (.ofNat 300)), ((.ofNat 11), (.ofNat 11)), ((.ofNat 1), (.ofNat 65535)), ((.ofNat 11), (.ofNat 299))]) finK = pM11_tree := by kernel_rfl
set_option maxRecDepth 1000000 in
theorem pM11_ok : okTree pM11_tree true [] pM11_dead = true := by kernel_rfl
theorem pM11_any (a0 : Int) (h0 : 12 ≤ a0 ∧ a0 ≤ 300) (a1 : Int) (h1 : 11 ≤ a1 ∧ a1 ≤ 11) (a2 : Int) (h2 : 1 ≤ a2 ∧ a2 ≤ 65535) (w : World) : Calls Tryz.prog 3 #[.int .i64 a0, .int .i64 a1, .int .i64 a2] w fun e w' => e = .returned (.bool true) ∧ Kp [] w w' := by
  obtain rfl : a1 = 11 := by omega
  exact run_bool (ds := pM11_dead) follows_mixed plansM11_ok hubFloods.sumsG_ok (pM11_run) pM11_ok (fun i => if i = 0 then a0 else if i = 1 then 11 else if i = 2 then a2 else if i = 3 then 11 else 0) (fun x hx => by cases hx) (rgOk_cons (⟨h0.1, h0.2⟩) (rgOk_cons (⟨Int.le_refl _, Int.le_refl _⟩) (rgOk_cons (⟨h2.1, h2.2⟩) (rgOk_cons (⟨Int.le_refl _, (by decide : (11 : Int) ≤ 299)⟩) (rgOk_nil))))) (fun d hd => by simp [pM11_dead] at hd) (xs := [.int .i64 a0, .int .i64 11, .int .i64 a2]) (by rfl) w

def pM12_dead : List (List (SB × Bool)) := []
noncomputable def pM12_tree : R := fillT endT []
set_option maxRecDepth 1000000 in
theorem pM12_run : evCall Tryz.prog plansM12 hubFloods.sumsG 100000 3 [.int .i64 (.var 0), .int .i64 (.var 1), .int .i64 (.var 2)] (s0 [] [[]] [((.ofNat 13), (.ofNat 300)), ((.ofNat 12), (.ofNat 12)), ((.ofNat 1), (.ofNat 65535)), ((.ofNat 12), (.ofNat 299))]) finK = pM12_tree := by kernel_rfl
set_option maxRecDepth 1000000 in
theorem pM12_ok : okTree pM12_tree true [] pM12_dead = true := by kernel_rfl
theorem pM12_any (a0 : Int) (h0 : 13 ≤ a0 ∧ a0 ≤ 300) (a1 : Int) (h1 : 12 ≤ a1 ∧ a1 ≤ 12) (a2 : Int) (h2 : 1 ≤ a2 ∧ a2 ≤ 65535) (w : World) : Calls Tryz.prog 3 #[.int .i64 a0, .int .i64 a1, .int .i64 a2] w fun e w' => e = .returned (.bool true) ∧ Kp [] w w' := by
  obtain rfl : a1 = 12 := by omega
  exact run_bool (ds := pM12_dead) follows_mixed plansM12_ok hubFloods.sumsG_ok (pM12_run) pM12_ok (fun i => if i = 0 then a0 else if i = 1 then 12 else if i = 2 then a2 else if i = 3 then 12 else 0) (fun x hx => by cases hx) (rgOk_cons (⟨h0.1, h0.2⟩) (rgOk_cons (⟨Int.le_refl _, Int.le_refl _⟩) (rgOk_cons (⟨h2.1, h2.2⟩) (rgOk_cons (⟨Int.le_refl _, (by decide : (12 : Int) ≤ 299)⟩) (rgOk_nil))))) (fun d hd => by simp [pM12_dead] at hd) (xs := [.int .i64 a0, .int .i64 12, .int .i64 a2]) (by rfl) w

end Go.Proofs.YtlmpmmcefdhgmaaGreat.hubFloods

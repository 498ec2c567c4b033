/-
  HubFloods: runs, M13, M14, M15, M16, M17, M18, M19, M20, M21.
-/
import Derived.Test.YtlmpmmcefdhgmaaGreatSgFS
import Derived.Test.YtlmpmmcefdhgmaaGreatRs
import Derived.Test.YtlmpmmcefdhgmaaGreatPlsOk
import Derived.Test.YtlmpmmcefdhgmaaGreatAccFOk
import Derived.Test.YtlmpmmcefdhgmaaGreatAccFOk
import Derived.Test.YtlmpmmcefdhgmaaGreatAccFOk
import Derived.Test.YtlmpmmcefdhgmaaGreatAccFOk
import Derived.Test.YtlmpmmcefdhgmaaGreatAccFOk
import Derived.Test.YtlmpmmcefdhgmaaGreatAccFOk
import Derived.Test.YtlmpmmcefdhgmaaGreatAccFOk
import Derived.Test.YtlmpmmcefdhgmaaGreatAccFOk
import Derived.Test.YtlmpmmcefdhgmaaGreatAccFOk
set_option linter.unusedVariables false
set_option linter.unusedSimpArgs false
namespace Go.Proofs.YtlmpmmcefdhgmaaGreat.hubFloods
open Go

def pM13_dead : List (List (SB × Bool)) := []
noncomputable def pM13_tree : R := fillT endT []
set_option maxRecDepth 1000000 in
theorem pM13_run : evCall Tryz.prog plansM13 hubFloods.sumsG 100000 3 [.int .i64 (.var 0), .int .i64 (.var 1), .int .i64 (.var 2)] (s0 [] [[]] [((.ofNat 14), (.ofNat 300)), ((.ofNat 13), (.ofNat 13)), ((.ofNat 1), (.ofNat 65535)), ((.ofNat 13), (.ofNat 299))]) finK = pM13_tree := by kernel_rfl
set_option maxRecDepth 1000000 in
theorem pM13_ok : okTree pM13_tree true [] pM13_dead = true := by kernel_rfl
theorem pM13_any (a0 : Int) (h0 : 14 ≤ a0 ∧ a0 ≤ 300) (a1 : Int) (h1 : 13 ≤ a1 ∧ a1 ≤ 13) (a2 : Int) (h2 : 1 ≤ a2 ∧ a2 ≤ 65535) (w : World) : Calls Tryz.prog 3 #[.int .i64 a0, .int .i64 a1, .int .i64 a2] w fun e w' => e = .returned (.bool true) ∧ Kp [] w w' := by
  obtain rfl : a1 = 13 := by omega
  exact run_bool (ds := pM13_dead) follows_mixed plansM13_ok hubFloods.sumsG_ok (pM13_run) pM13_ok (fun i => if i = 0 then a0 else if i = 1 then 13 else if i = 2 then a2 else if i = 3 then 13 else 0) (fun x hx => by cases hx) (rgOk_cons (⟨h0.1, h0.2⟩) (rgOk_cons (⟨Int.le_refl _, Int.le_refl _⟩) (rgOk_cons (⟨h2.1, h2.2⟩) (rgOk_cons (⟨Int.le_refl _, (by decide : (13 : Int) ≤ 299)⟩) (rgOk_nil))))) (fun d hd => by simp [pM13_dead] at hd) (xs := [.int .i64 a0, .int .i64 13, .int .i64 a2]) (by rfl) w

def pM14_dead : List (List (SB × Bool)) := []
noncomputable def pM14_tree : R := fillT endT []
set_option maxRecDepth 1000000 in
theorem pM14_run : evCall Tryz.prog plansM14 hubFloods.sumsG 100000 3 [.int .i64 (.var 0), .int .i64 (.var 1), .int .i64 (.var 2)] (s0 [] [[]] [((.ofNat 15), (.ofNat 300)), ((.ofNat 14), (.ofNat 14)), ((.ofNat 1), (.ofNat 65535)), ((.ofNat 14), (.ofNat 299))]) finK = pM14_tree := by kernel_rfl
set_option maxRecDepth 1000000 in
theorem pM14_ok : okTree pM14_tree true [] pM14_dead = true := by kernel_rfl
theorem pM14_any (a0 : Int) (h0 : 15 ≤ a0 ∧ a0 ≤ 300) (a1 : Int) (h1 : 14 ≤ a1 ∧ a1 ≤ 14) (a2 : Int) (h2 : 1 ≤ a2 ∧ a2 ≤ 65535) (w : World) : Calls Tryz.prog 3 #[.int .i64 a0, .int .i64 a1, .int .i64 a2] w fun e w' => e = .returned (.bool true) ∧ Kp [] w w' := by
  obtain rfl : a1 = 14 := by omega
  exact run_bool (ds := pM14_dead) follows_mixed plansM14_ok hubFloods.sumsG_ok (pM14_run) pM14_ok (fun i => if i = 0 then a0 else if i = 1 then 14 else if i = 2 then a2 else if i = 3 then 14 else 0) (fun x hx => by cases hx) (rgOk_cons (⟨h0.1, h0.2⟩) (rgOk_cons (⟨Int.le_refl _, Int.le_refl _⟩) (rgOk_cons (⟨h2.1, h2.2⟩) (rgOk_cons (⟨Int.le_refl _, (by decide : (14 : Int) ≤ 299)⟩) (rgOk_nil))))) (fun d hd => by simp [pM14_dead] at hd) (xs := [.int .i64 a0, .int .i64 14, .int .i64 a2]) (by rfl) w

def pM15_dead : List (List (SB × Bool)) := []
noncomputable def pM15_tree : R := fillT endT []
set_option maxRecDepth 1000000 in
theorem pM15_run : evCall Tryz.prog plansM15 hubFloods.sumsG 100000 3 [.int .i64 (.var 0), .int .i64 (.var 1), .int .i64 (.var 2)] (s0 [] [[]] [((.ofNat 16), (.ofNat 300)), ((.ofNat 15), (.ofNat 15)), ((.ofNat 1), (.ofNat 65535)), ((.ofNat 15), (.ofNat 299))]) finK = pM15_tree := by kernel_rfl
set_option maxRecDepth 1000000 in
theorem pM15_ok : okTree pM15_tree true [] pM15_dead = true := by kernel_rfl
theorem pM15_any (a0 : Int) (h0 : 16 ≤ a0 ∧ a0 ≤ 300) (a1 : Int) (h1 : 15 ≤ a1 ∧ a1 ≤ 15) (a2 : Int) (h2 : 1 ≤ a2 ∧ a2 ≤ 65535) (w : World) : Calls Tryz.prog 3 #[.int .i64 a0, .int .i64 a1, .int .i64 a2] w fun e w' => e = .returned (.bool true) ∧ Kp [] w w' := by
  obtain rfl : a1 = 15 := by omega
  exact run_bool (ds := pM15_dead) follows_mixed plansM15_ok hubFloods.sumsG_ok (pM15_run) pM15_ok (fun i => if i = 0 then a0 else if i = 1 then 15 else if i = 2 then a2 else if i = 3 then 15 else 0) (fun x hx => by cases hx) (rgOk_cons (⟨h0.1, h0.2⟩) (rgOk_cons (⟨Int.le_refl _, Int.le_refl _⟩) (rgOk_cons (⟨h2.1, h2.2⟩) (rgOk_cons (⟨Int.le_refl _, (by decide : (15 : Int) ≤ 299)⟩) (rgOk_nil))))) (fun d hd => by simp [pM15_dead] at hd) (xs := [.int .i64 a0, .int .i64 15, .int .i64 a2]) (by rfl) w

def pM16_dead : List (List (SB × Bool)) := []
noncomputable def pM16_tree : R := fillT endT []
set_option maxRecDepth 1000000 in
theorem pM16_run : evCall Tryz.prog plansM16 hubFloods.sumsG 100000 3 [.int .i64 (.var 0), .int .i64 (.var 1), .int .i64 (.var 2)] (s0 [] [[]] [((.ofNat 17), (.ofNat 300)), ((.ofNat 16), (.ofNat 16)), ((.ofNat 1), (.ofNat 65535)), ((.ofNat 16), (.ofNat 299))]) finK = pM16_tree := by kernel_rfl
set_option maxRecDepth 1000000 in
theorem pM16_ok : okTree pM16_tree true [] pM16_dead = true := by kernel_rfl
theorem pM16_any (a0 : Int) (h0 : 17 ≤ a0 ∧ a0 ≤ 300) (a1 : Int) (h1 : 16 ≤ a1 ∧ a1 ≤ 16) (a2 : Int) (h2 : 1 ≤ a2 ∧ a2 ≤ 65535) (w : World) : Calls Tryz.prog 3 #[.int .i64 a0, .int .i64 a1, .int .i64 a2] w fun e w' => e = .returned (.bool true) ∧ Kp [] w w' := by
  obtain rfl : a1 = 16 := by omega
  exact run_bool (ds := pM16_dead) follows_mixed plansM16_ok hubFloods.sumsG_ok (pM16_run) pM16_ok (fun i => if i = 0 then a0 else if i = 1 then 16 else if i = 2 then a2 else if i = 3 then 16 else 0) (fun x hx => by cases hx) (rgOk_cons (⟨h0.1, h0.2⟩) (rgOk_cons (⟨Int.le_refl _, Int.le_refl _⟩) (rgOk_cons (⟨h2.1, h2.2⟩) (rgOk_cons (⟨Int.le_refl _, (by decide : (16 : Int) ≤ 299)⟩) (rgOk_nil))))) (fun d hd => by simp [pM16_dead] at hd) (xs := [.int .i64 a0, .int .i64 16, .int .i64 a2]) (by rfl) w

def pM17_dead : List (List (SB × Bool)) := []
noncomputable def pM17_tree : R := fillT endT []
set_option maxRecDepth 1000000 in
theorem pM17_run : evCall Tryz.prog plansM17 hubFloods.sumsG 100000 3 [.int .i64 (.var 0), .int .i64 (.var 1), .int .i64 (.var 2)] (s0 [] [[]] [((.ofNat 18), (.ofNat 300)), ((.ofNat 17), (.ofNat 17)), ((.ofNat 1), (.ofNat 65535)), ((.ofNat 17), (.ofNat 299))]) finK = pM17_tree := by kernel_rfl
set_option maxRecDepth 1000000 in
theorem pM17_ok : okTree pM17_tree true [] pM17_dead = true := by kernel_rfl
theorem pM17_any (a0 : Int) (h0 : 18 ≤ a0 ∧ a0 ≤ 300) (a1 : Int) (h1 : 17 ≤ a1 ∧ a1 ≤ 17) (a2 : Int) (h2 : 1 ≤ a2 ∧ a2 ≤ 65535) (w : World) : Calls Tryz.prog 3 #[.int .i64 a0, .int .i64 a1, .int .i64 a2] w fun e w' => e = .returned (.bool true) ∧ Kp [] w w' := by
  obtain rfl : a1 = 17 := by omega
  exact run_bool (ds := pM17_dead) follows_mixed plansM17_ok hubFloods.sumsG_ok (pM17_run) pM17_ok (fun i => if i = 0 then a0 else if i = 1 then 17 else if i = 2 then a2 else if i = 3 then 17 else 0) (fun x hx => by cases hx) (rgOk_cons (⟨h0.1, h0.2⟩) (rgOk_cons (⟨Int.le_refl _, Int.le_refl _⟩) (rgOk_cons (⟨h2.1, h2.2⟩) (rgOk_cons (⟨Int.le_refl _, (by decide : (17 : Int) ≤ 299)⟩) (rgOk_nil))))) (fun d hd => by simp [pM17_dead] at hd) (xs := [.int .i64 a0, .int .i64 17, .int .i64 a2]) (by rfl) w

def pM18_dead : List (List (SB × Bool)) := []
noncomputable def pM18_tree : R := fillT endT []
set_option maxRecDepth 1000000 in
theorem pM18_run : evCall Tryz.prog plansM18 hubFloods.sumsG 100000 3 [.int .i64 (.var 0), .int .i64 (.var 1), .int .i64 (.var 2)] (s0 [] [[]] [((.ofNat 19), (.ofNat 300)), ((.ofNat 18), (.ofNat 18)), ((.ofNat 1), (.ofNat 65535)), ((.ofNat 18), (.ofNat 299))]) finK = pM18_tree := by kernel_rfl
set_option maxRecDepth 1000000 in
theorem pM18_ok : okTree pM18_tree true [] pM18_dead = true := by kernel_rfl
theorem pM18_any (a0 : Int) (h0 : 19 ≤ a0 ∧ a0 ≤ 300) (a1 : Int) (h1 : 18 ≤ a1 ∧ a1 ≤ 18) (a2 : Int) (h2 : 1 ≤ a2 ∧ a2 ≤ 65535) (w : World) : Calls Tryz.prog 3 #[.int .i64 a0, .int .i64 a1, .int .i64 a2] w fun e w' => e = .returned (.bool true) ∧ Kp [] w w' := by
  obtain rfl : a1 = 18 := by omega
  exact run_bool (ds := pM18_dead) follows_mixed plansM18_ok hubFloods.sumsG_ok (pM18_run) pM18_ok (fun i => if i = 0 then a0 else if i = 1 then 18 else if i = 2 then a2 else if i = 3 then 18 else 0) (fun x hx => by cases hx) (rgOk_cons (⟨h0.1, h0.2⟩) (rgOk_cons (⟨Int.le_refl _, Int.le_refl _⟩) (rgOk_cons (⟨h2.1, h2.2⟩) (rgOk_cons (⟨Int.le_refl _, (by decide : (18 : Int) ≤ 299)⟩) (rgOk_nil))))) (fun d hd => by simp [pM18_dead] at hd) (xs := [.int .i64 a0, .int .i64 18, .int .i64 a2]) (by rfl) w

def pM19_dead : List (List (SB × Bool)) := []
noncomputable def pM19_tree : R := fillT endT []
set_option maxRecDepth 1000000 in
theorem pM19_run : evCall Tryz.prog plansM19 hubFloods.sumsG 100000 3 [.int .i64 (.var 0), .int .i64 (.var 1), .int .i64 (.var 2)] (s0 [] [[]] [((.ofNat 20), (.ofNat 300)), ((.ofNat 19), (.ofNat 19)), ((.ofNat 1), (.ofNat 65535)), ((.ofNat 19), (.ofNat 299))]) finK = pM19_tree := by kernel_rfl
set_option maxRecDepth 1000000 in
theorem pM19_ok : okTree pM19_tree true [] pM19_dead = true := by kernel_rfl
theorem pM19_any (a0 : Int) (h0 : 20 ≤ a0 ∧ a0 ≤ 300) (a1 : Int) (h1 : 19 ≤ a1 ∧ a1 ≤ 19) (a2 : Int) (h2 : 1 ≤ a2 ∧ a2 ≤ 65535) (w : World) : Calls Tryz.prog 3 #[.int .i64 a0, .int .i64 a1, .int .i64 a2] w fun e w' => e = .returned (.bool true) ∧ Kp [] w w' := by
  obtain rfl : a1 = 19 := by omega
  exact run_bool (ds := pM19_dead) follows_mixed plansM19_ok hubFloods.sumsG_ok (pM19_run) pM19_ok (fun i => if i = 0 then a0 else if i = 1 then 19 else if i = 2 then a2 else if i = 3 then 19 else 0) (fun x hx => by cases hx) (rgOk_cons (⟨h0.1, h0.2⟩) (rgOk_cons (⟨Int.le_refl _, Int.le_refl _⟩) (rgOk_cons (⟨h2.1, h2.2⟩) (rgOk_cons (⟨Int.le_refl _, (by decide : (19 : Int) ≤ 299)⟩) (rgOk_nil))))) (fun d hd => by simp [pM19_dead] at hd) (xs := [.int .i64 a0, .int .i64 19, .int .i64 a2]) (by rfl) w

def pM20_dead : List (List (SB × Bool)) := []
noncomputable def pM20_tree : R := fillT endT []
set_option maxRecDepth 1000000 in
theorem pM20_run : evCall Tryz.prog plansM20 hubFloods.sumsG 100000 3 [.int .i64 (.var 0), .int .i64 (.var 1), .int .i64 (.var 2)] (s0 [] [[]] [((.ofNat 21), (.ofNat 300)), ((.ofNat 20), (.ofNat 20)), ((.ofNat 1), (.ofNat 65535)), ((.ofNat 20), (.ofNat 299))]) finK = pM20_tree := by kernel_rfl
set_option maxRecDepth 1000000 in
theorem pM20_ok : okTree pM20_tree true [] pM20_dead = true := by kernel_rfl
theorem pM20_any (a0 : Int) (h0 : 21 ≤ a0 ∧ a0 ≤ 300) (a1 : Int) (h1 : 20 ≤ a1 ∧ a1 ≤ 20) (a2 : Int) (h2 : 1 ≤ a2 ∧ a2 ≤ 65535) (w : World) : Calls Tryz.prog 3 #[.int .i64 a0, .int .i64 a1, .int .i64 a2] w fun e w' => e = .returned (.bool true) ∧ Kp [] w w' := by
  obtain rfl : a1 = 20 := by omega
  exact run_bool (ds := pM20_dead) follows_mixed plansM20_ok hubFloods.sumsG_ok (pM20_run) pM20_ok (fun i => if i = 0 then a0 else if i = 1 then 20 else if i = 2 then a2 else if i = 3 then 20 else 0) (fun x hx => by cases hx) (rgOk_cons (⟨h0.1, h0.2⟩) (rgOk_cons (⟨Int.le_refl _, Int.le_refl _⟩) (rgOk_cons (⟨h2.1, h2.2⟩) (rgOk_cons (⟨Int.le_refl _, (by decide : (20 : Int) ≤ 299)⟩) (rgOk_nil))))) (fun d hd => by simp [pM20_dead] at hd) (xs := [.int .i64 a0, .int .i64 20, .int .i64 a2]) (by rfl) w

def pM21_dead : List (List (SB × Bool)) := []
noncomputable def pM21_tree : R := fillT endT []
set_option maxRecDepth 1000000 in
theorem pM21_run : evCall Tryz.prog plansM21 hubFloods.sumsG 100000 3 [.int .i64 (.var 0), .int .i64 (.var 1), .int .i64 (.var 2)] (s0 [] [[]] [((.ofNat 22), (.ofNat 300)), ((.ofNat 21), (.ofNat 21)), ((.ofNat 1), (.ofNat 65535)), ((.ofNat 21), (.ofNat 299))]) finK = pM21_tree := by kernel_rfl
set_option maxRecDepth 1000000 in
theorem pM21_ok : okTree pM21_tree true [] pM21_dead = true := by kernel_rfl
theorem pM21_any (a0 : Int) (h0 : 22 ≤ a0 ∧ a0 ≤ 300) (a1 : Int) (h1 : 21 ≤ a1 ∧ a1 ≤ 21) (a2 : Int) (h2 : 1 ≤ a2 ∧ a2 ≤ 65535) (w : World) : Calls Tryz.prog 3 #[.int .i64 a0, .int .i64 a1, .int .i64 a2] w fun e w' => e = .returned (.bool true) ∧ Kp [] w w' := by
  obtain rfl : a1 = 21 := by omega
  exact run_bool (ds := pM21_dead) follows_mixed plansM21_ok hubFloods.sumsG_ok (pM21_run) pM21_ok (fun i => if i = 0 then a0 else if i = 1 then 21 else if i = 2 then a2 else if i = 3 then 21 else 0) (fun x hx => by cases hx) (rgOk_cons (⟨h0.1, h0.2⟩) (rgOk_cons (⟨Int.le_refl _, Int.le_refl _⟩) (rgOk_cons (⟨h2.1, h2.2⟩) (rgOk_cons (⟨Int.le_refl _, (by decide : (21 : Int) ≤ 299)⟩) (rgOk_nil))))) (fun d hd => by simp [pM21_dead] at hd) (xs := [.int .i64 a0, .int .i64 21, .int .i64 a2]) (by rfl) w

end Go.Proofs.YtlmpmmcefdhgmaaGreat.hubFloods

/-
  HubDeaf: runs, N0x0, N1x0, N1x1, N2x0, N2x1, N2x2, N3x0, N3x1, N3x2, N3x3, N4x0, N4x1, N4x2, N4x3, N4x4, N5x0, N5x1, N5x2, N5x3, N5x4, N5x5, N6x0, N6x1, N6x2, N6x3, N6x4, N6x5, N6x6, N7x0, N7x1, N7x2, N7x3.
-/
import Derived.Test.YtlmpmmcefdhgmaaGreatSgDS
import Derived.Test.YtlmpmmcefdhgmaaGreatRs
import Derived.Test.YtlmpmmcefdhgmaaGreatPlsOk
set_option linter.unusedVariables false
set_option linter.unusedSimpArgs false
namespace Go.Proofs.YtlmpmmcefdhgmaaGreat.hubDeaf
open Go

def pN0x0_dead : List (List (SB × Bool)) := []
noncomputable def pN0x0_tree : R := fillT endT []
set_option maxRecDepth 1000000 in
theorem pN0x0_run : evCall Tryz.prog plans hubDeaf.sumsG 100000 6 [.int .i64 (.lit (.ofNat 0)), .int .i64 (.lit (.ofNat 0))] (s0 [] [[]] [((.ofNat 0), (.ofNat 0)), ((.ofNat 0), (.ofNat 0))]) finK = pN0x0_tree := by kernel_rfl
set_option maxRecDepth 1000000 in
theorem pN0x0_ok : okTree pN0x0_tree true [] pN0x0_dead = true := by kernel_rfl
theorem pN0x0_any (a0 : Int) (h0 : 0 ≤ a0 ∧ a0 ≤ 0) (a1 : Int) (h1 : 0 ≤ a1 ∧ a1 ≤ 0) (w : World) : Calls Tryz.prog 6 #[.int .i64 a0, .int .i64 a1] w fun e w' => e = .returned (.bool true) ∧ Kp [] w w' := by
  obtain rfl : a0 = 0 := by omega
  obtain rfl : a1 = 0 := by omega
  exact run_bool (ds := pN0x0_dead) follows_mixed plans_ok hubDeaf.sumsG_ok (pN0x0_run) pN0x0_ok (fun i => if i = 0 then 0 else if i = 1 then 0 else 0) (fun x hx => by cases hx) (rgOk_cons (⟨Int.le_refl _, Int.le_refl _⟩) (rgOk_cons (⟨Int.le_refl _, Int.le_refl _⟩) (rgOk_nil))) (fun d hd => by simp [pN0x0_dead] at hd) (xs := [.int .i64 0, .int .i64 0]) (by rfl) w

def pN1x0_dead : List (List (SB × Bool)) := []
noncomputable def pN1x0_tree : R := fillT endT []
set_option maxRecDepth 1000000 in
theorem pN1x0_run : evCall Tryz.prog plans hubDeaf.sumsG 100000 6 [.int .i64 (.lit (.ofNat 1)), .int .i64 (.lit (.ofNat 0))] (s0 [] [[]] [((.ofNat 1), (.ofNat 1)), ((.ofNat 0), (.ofNat 0))]) finK = pN1x0_tree := by kernel_rfl
set_option maxRecDepth 1000000 in
theorem pN1x0_ok : okTree pN1x0_tree true [] pN1x0_dead = true := by kernel_rfl
theorem pN1x0_any (a0 : Int) (h0 : 1 ≤ a0 ∧ a0 ≤ 1) (a1 : Int) (h1 : 0 ≤ a1 ∧ a1 ≤ 0) (w : World) : Calls Tryz.prog 6 #[.int .i64 a0, .int .i64 a1] w fun e w' => e = .returned (.bool true) ∧ Kp [] w w' := by
  obtain rfl : a0 = 1 := by omega
  obtain rfl : a1 = 0 := by omega
  exact run_bool (ds := pN1x0_dead) follows_mixed plans_ok hubDeaf.sumsG_ok (pN1x0_run) pN1x0_ok (fun i => if i = 0 then 1 else if i = 1 then 0 else 0) (fun x hx => by cases hx) (rgOk_cons (⟨Int.le_refl _, Int.le_refl _⟩) (rgOk_cons (⟨Int.le_refl _, Int.le_refl _⟩) (rgOk_nil))) (fun d hd => by simp [pN1x0_dead] at hd) (xs := [.int .i64 1, .int .i64 0]) (by rfl) w

def pN1x1_dead : List (List (SB × Bool)) := []
noncomputable def pN1x1_tree : R := fillT endT []
set_option maxRecDepth 1000000 in
theorem pN1x1_run : evCall Tryz.prog plans hubDeaf.sumsG 100000 6 [.int .i64 (.lit (.ofNat 1)), .int .i64 (.lit (.ofNat 1))] (s0 [] [[]] [((.ofNat 1), (.ofNat 1)), ((.ofNat 1), (.ofNat 1))]) finK = pN1x1_tree := by kernel_rfl
set_option maxRecDepth 1000000 in
theorem pN1x1_ok : okTree pN1x1_tree true [] pN1x1_dead = true := by kernel_rfl
theorem pN1x1_any (a0 : Int) (h0 : 1 ≤ a0 ∧ a0 ≤ 1) (a1 : Int) (h1 : 1 ≤ a1 ∧ a1 ≤ 1) (w : World) : Calls Tryz.prog 6 #[.int .i64 a0, .int .i64 a1] w fun e w' => e = .returned (.bool true) ∧ Kp [] w w' := by
  obtain rfl : a0 = 1 := by omega
  obtain rfl : a1 = 1 := by omega
  exact run_bool (ds := pN1x1_dead) follows_mixed plans_ok hubDeaf.sumsG_ok (pN1x1_run) pN1x1_ok (fun i => if i = 0 then 1 else if i = 1 then 1 else 0) (fun x hx => by cases hx) (rgOk_cons (⟨Int.le_refl _, Int.le_refl _⟩) (rgOk_cons (⟨Int.le_refl _, Int.le_refl _⟩) (rgOk_nil))) (fun d hd => by simp [pN1x1_dead] at hd) (xs := [.int .i64 1, .int .i64 1]) (by rfl) w

def pN2x0_dead : List (List (SB × Bool)) := []
noncomputable def pN2x0_tree : R := fillT endT []
set_option maxRecDepth 1000000 in
theorem pN2x0_run : evCall Tryz.prog plans hubDeaf.sumsG 100000 6 [.int .i64 (.lit (.ofNat 2)), .int .i64 (.lit (.ofNat 0))] (s0 [] [[]] [((.ofNat 2), (.ofNat 2)), ((.ofNat 0), (.ofNat 0))]) finK = pN2x0_tree := by kernel_rfl
set_option maxRecDepth 1000000 in
theorem pN2x0_ok : okTree pN2x0_tree true [] pN2x0_dead = true := by kernel_rfl
theorem pN2x0_any (a0 : Int) (h0 : 2 ≤ a0 ∧ a0 ≤ 2) (a1 : Int) (h1 : 0 ≤ a1 ∧ a1 ≤ 0) (w : World) : Calls Tryz.prog 6 #[.int .i64 a0, .int .i64 a1] w fun e w' => e = .returned (.bool true) ∧ Kp [] w w' := by
  obtain rfl : a0 = 2 := by omega
  obtain rfl : a1 = 0 := by omega
  exact run_bool (ds := pN2x0_dead) follows_mixed plans_ok hubDeaf.sumsG_ok (pN2x0_run) pN2x0_ok (fun i => if i = 0 then 2 else if i = 1 then 0 else 0) (fun x hx => by cases hx) (rgOk_cons (⟨Int.le_refl _, Int.le_refl _⟩) (rgOk_cons (⟨Int.le_refl _, Int.le_refl _⟩) (rgOk_nil))) (fun d hd => by simp [pN2x0_dead] at hd) (xs := [.int .i64 2, .int .i64 0]) (by rfl) w

def pN2x1_dead : List (List (SB × Bool)) := []
noncomputable def pN2x1_tree : R := fillT endT []
set_option maxRecDepth 1000000 in
theorem pN2x1_run : evCall Tryz.prog plans hubDeaf.sumsG 100000 6 [.int .i64 (.lit (.ofNat 2)), .int .i64 (.lit (.ofNat 1))] (s0 [] [[]] [((.ofNat 2), (.ofNat 2)), ((.ofNat 1), (.ofNat 1))]) finK = pN2x1_tree := by kernel_rfl
set_option maxRecDepth 1000000 in
theorem pN2x1_ok : okTree pN2x1_tree true [] pN2x1_dead = true := by kernel_rfl
theorem pN2x1_any (a0 : Int) (h0 : 2 ≤ a0 ∧ a0 ≤ 2) (a1 : Int) (h1 : 1 ≤ a1 ∧ a1 ≤ 1) (w : World) : Calls Tryz.prog 6 #[.int .i64 a0, .int .i64 a1] w fun e w' => e = .returned (.bool true) ∧ Kp [] w w' := by
  obtain rfl : a0 = 2 := by omega
  obtain rfl : a1 = 1 := by omega
  exact run_bool (ds := pN2x1_dead) follows_mixed plans_ok hubDeaf.sumsG_ok (pN2x1_run) pN2x1_ok (fun i => if i = 0 then 2 else if i = 1 then 1 else 0) (fun x hx => by cases hx) (rgOk_cons (⟨Int.le_refl _, Int.le_refl _⟩) (rgOk_cons (⟨Int.le_refl _, Int.le_refl _⟩) (rgOk_nil))) (fun d hd => by simp [pN2x1_dead] at hd) (xs := [.int .i64 2, .int .i64 1]) (by rfl) w

def pN2x2_dead : List (List (SB × Bool)) := []
noncomputable def pN2x2_tree : R := fillT endT []
set_option maxRecDepth 1000000 in
theorem pN2x2_run : evCall Tryz.prog plans hubDeaf.sumsG 100000 6 [.int .i64 (.lit (.ofNat 2)), .int .i64 (.lit (.ofNat 2))] (s0 [] [[]] [((.ofNat 2), (.ofNat 2)), ((.ofNat 2), (.ofNat 2))]) finK = pN2x2_tree := by kernel_rfl
set_option maxRecDepth 1000000 in
theorem pN2x2_ok : okTree pN2x2_tree true [] pN2x2_dead = true := by kernel_rfl
theorem pN2x2_any (a0 : Int) (h0 : 2 ≤ a0 ∧ a0 ≤ 2) (a1 : Int) (h1 : 2 ≤ a1 ∧ a1 ≤ 2) (w : World) : Calls Tryz.prog 6 #[.int .i64 a0, .int .i64 a1] w fun e w' => e = .returned (.bool true) ∧ Kp [] w w' := by
  obtain rfl : a0 = 2 := by omega
  obtain rfl : a1 = 2 := by omega
  exact run_bool (ds := pN2x2_dead) follows_mixed plans_ok hubDeaf.sumsG_ok (pN2x2_run) pN2x2_ok (fun i => if i = 0 then 2 else if i = 1 then 2 else 0) (fun x hx => by cases hx) (rgOk_cons (⟨Int.le_refl _, Int.le_refl _⟩) (rgOk_cons (⟨Int.le_refl _, Int.le_refl _⟩) (rgOk_nil))) (fun d hd => by simp [pN2x2_dead] at hd) (xs := [.int .i64 2, .int .i64 2]) (by rfl) w

def pN3x0_dead : List (List (SB × Bool)) := []
noncomputable def pN3x0_tree : R := fillT endT []
set_option maxRecDepth 1000000 in
theorem pN3x0_run : evCall Tryz.prog plans hubDeaf.sumsG 100000 6 [.int .i64 (.lit (.ofNat 3)), .int .i64 (.lit (.ofNat 0))] (s0 [] [[]] [((.ofNat 3), (.ofNat 3)), ((.ofNat 0), (.ofNat 0))]) finK = pN3x0_tree := by kernel_rfl
set_option maxRecDepth 1000000 in
theorem pN3x0_ok : okTree pN3x0_tree true [] pN3x0_dead = true := by kernel_rfl
theorem pN3x0_any (a0 : Int) (h0 : 3 ≤ a0 ∧ a0 ≤ 3) (a1 : Int) (h1 : 0 ≤ a1 ∧ a1 ≤ 0) (w : World) : Calls Tryz.prog 6 #[.int .i64 a0, .int .i64 a1] w fun e w' => e = .returned (.bool true) ∧ Kp [] w w' := by
  obtain rfl : a0 = 3 := by omega
  obtain rfl : a1 = 0 := by omega
  exact run_bool (ds := pN3x0_dead) follows_mixed plans_ok hubDeaf.sumsG_ok (pN3x0_run) pN3x0_ok (fun i => if i = 0 then 3 else if i = 1 then 0 else 0) (fun x hx => by cases hx) (rgOk_cons (⟨Int.le_refl _, Int.le_refl _⟩) (rgOk_cons (⟨Int.le_refl _, Int.le_refl _⟩) (rgOk_nil))) (fun d hd => by simp [pN3x0_dead] at hd) (xs := [.int .i64 3, .int .i64 0]) (by rfl) w

def pN3x1_dead : List (List (SB × Bool)) := []
noncomputable def pN3x1_tree : R := fillT endT []
set_option maxRecDepth 1000000 in
theorem pN3x1_run : evCall Tryz.prog plans hubDeaf.sumsG 100000 6 [.int .i64 (.lit (.ofNat 3)), .int .i64 (.lit (.ofNat 1))] (s0 [] [[]] [((.ofNat 3), (.ofNat 3)), ((.ofNat 1), (.ofNat 1))]) finK = pN3x1_tree := by kernel_rfl
set_option maxRecDepth 1000000 in
theorem pN3x1_ok : okTree pN3x1_tree true [] pN3x1_dead = true := by kernel_rfl
theorem pN3x1_any (a0 : Int) (h0 : 3 ≤ a0 ∧ a0 ≤ 3) (a1 : Int) (h1 : 1 ≤ a1 ∧ a1 ≤ 1) (w : World) : Calls Tryz.prog 6 #[.int .i64 a0, .int .i64 a1] w fun e w' => e = .returned (.bool true) ∧ Kp [] w w' := by
  obtain rfl : a0 = 3 := by omega
  obtain rfl : a1 = 1 := by omega
  exact run_bool (ds := pN3x1_dead) follows_mixed plans_ok hubDeaf.sumsG_ok (pN3x1_run) pN3x1_ok (fun i => if i = 0 then 3 else if i = 1 then 1 else 0) (fun x hx => by cases hx) (rgOk_cons (⟨Int.le_refl _, Int.le_refl _⟩) (rgOk_cons (⟨Int.le_refl _, Int.le_refl _⟩) (rgOk_nil))) (fun d hd => by simp [pN3x1_dead] at hd) (xs := [.int .i64 3, .int .i64 1]) (by rfl) w

def pN3x2_dead : List (List (SB × Bool)) := []
noncomputable def pN3x2_tree : R := fillT endT []
set_option maxRecDepth 1000000 in
theorem pN3x2_run : evCall Tryz.prog plans hubDeaf.sumsG 100000 6 [.int .i64 (.lit (.ofNat 3)), .int .i64 (.lit (.ofNat 2))] (s0 [] [[]] [((.ofNat 3), (.ofNat 3)), ((.ofNat 2), (.ofNat 2))]) finK = pN3x2_tree := by kernel_rfl
set_option maxRecDepth 1000000 in
theorem pN3x2_ok : okTree pN3x2_tree true [] pN3x2_dead = true := by kernel_rfl
theorem pN3x2_any (a0 : Int) (h0 : 3 ≤ a0 ∧ a0 ≤ 3) (a1 : Int) (h1 : 2 ≤ a1 ∧ a1 ≤ 2) (w : World) : Calls Tryz.prog 6 #[.int .i64 a0, .int .i64 a1] w fun e w' => e = .returned (.bool true) ∧ Kp [] w w' := by
  obtain rfl : a0 = 3 := by omega
  obtain rfl : a1 = 2 := by omega
  exact run_bool (ds := pN3x2_dead) follows_mixed plans_ok hubDeaf.sumsG_ok (pN3x2_run) pN3x2_ok (fun i => if i = 0 then 3 else if i = 1 then 2 else 0) (fun x hx => by cases hx) (rgOk_cons (⟨Int.le_refl _, Int.le_refl _⟩) (rgOk_cons (⟨Int.le_refl _, Int.le_refl _⟩) (rgOk_nil))) (fun d hd => by simp [pN3x2_dead] at hd) (xs := [.int .i64 3, .int .i64 2]) (by rfl) w

def pN3x3_dead : List (List (SB × Bool)) := []
noncomputable def pN3x3_tree : R := fillT endT []
set_option maxRecDepth 1000000 in
theorem pN3x3_run : evCall Tryz.prog plans hubDeaf.sumsG 100000 6 [.int .i64 (.lit (.ofNat 3)), .int .i64 (.lit (.ofNat 3))] (s0 [] [[]] [((.ofNat 3), (.ofNat 3)), ((.ofNat 3), (.ofNat 3))]) finK = pN3x3_tree := by kernel_rfl
set_option maxRecDepth 1000000 in
theorem pN3x3_ok : okTree pN3x3_tree true [] pN3x3_dead = true := by kernel_rfl
theorem pN3x3_any (a0 : Int) (h0 : 3 ≤ a0 ∧ a0 ≤ 3) (a1 : Int) (h1 : 3 ≤ a1 ∧ a1 ≤ 3) (w : World) : Calls Tryz.prog 6 #[.int .i64 a0, .int .i64 a1] w fun e w' => e = .returned (.bool true) ∧ Kp [] w w' := by
  obtain rfl : a0 = 3 := by omega
  obtain rfl : a1 = 3 := by omega
  exact run_bool (ds := pN3x3_dead) follows_mixed plans_ok hubDeaf.sumsG_ok (pN3x3_run) pN3x3_ok (fun i => if i = 0 then 3 else if i = 1 then 3 else 0) (fun x hx => by cases hx) (rgOk_cons (⟨Int.le_refl _, Int.le_refl _⟩) (rgOk_cons (⟨Int.le_refl _, Int.le_refl _⟩) (rgOk_nil))) (fun d hd => by simp [pN3x3_dead] at hd) (xs := [.int .i64 3, .int .i64 3]) (by rfl) w

def pN4x0_dead : List (List (SB × Bool)) := []
noncomputable def pN4x0_tree : R := fillT endT []
set_option maxRecDepth 1000000 in
theorem pN4x0_run : evCall Tryz.prog plans hubDeaf.sumsG 100000 6 [.int .i64 (.lit (.ofNat 4)), .int .i64 (.lit (.ofNat 0))] (s0 [] [[]] [((.ofNat 4), (.ofNat 4)), ((.ofNat 0), (.ofNat 0))]) finK = pN4x0_tree := by kernel_rfl
set_option maxRecDepth 1000000 in
theorem pN4x0_ok : okTree pN4x0_tree true [] pN4x0_dead = true := by kernel_rfl
theorem pN4x0_any (a0 : Int) (h0 : 4 ≤ a0 ∧ a0 ≤ 4) (a1 : Int) (h1 : 0 ≤ a1 ∧ a1 ≤ 0) (w : World) : Calls Tryz.prog 6 #[.int .i64 a0, .int .i64 a1] w fun e w' => e = .returned (.bool true) ∧ Kp [] w w' := by
  obtain rfl : a0 = 4 := by omega
  obtain rfl : a1 = 0 := by omega
  exact run_bool (ds := pN4x0_dead) follows_mixed plans_ok hubDeaf.sumsG_ok (pN4x0_run) pN4x0_ok (fun i => if i = 0 then 4 else if i = 1 then 0 else 0) (fun x hx => by cases hx) (rgOk_cons (⟨Int.le_refl _, Int.le_refl _⟩) (rgOk_cons (⟨Int.le_refl _, Int.le_refl _⟩) (rgOk_nil))) (fun d hd => by simp [pN4x0_dead] at hd) (xs := [.int .i64 4, .int .i64 0]) (by rfl) w

def pN4x1_dead : List (List (SB × Bool)) := []
noncomputable def pN4x1_tree : R := fillT endT []
set_option maxRecDepth 1000000 in
theorem pN4x1_run : evCall Tryz.prog plans hubDeaf.sumsG 100000 6 [.int .i64 (.lit (.ofNat 4)), .int .i64 (.lit (.ofNat 1))] (s0 [] [[]] [((.ofNat 4), (.ofNat 4)), ((.ofNat 1), (.ofNat 1))]) finK = pN4x1_tree := by kernel_rfl
set_option maxRecDepth 1000000 in
theorem pN4x1_ok : okTree pN4x1_tree true [] pN4x1_dead = true := by kernel_rfl
theorem pN4x1_any (a0 : Int) (h0 : 4 ≤ a0 ∧ a0 ≤ 4) (a1 : Int) (h1 : 1 ≤ a1 ∧ a1 ≤ 1) (w : World) : Calls Tryz.prog 6 #[.int .i64 a0, .int .i64 a1] w fun e w' => e = .returned (.bool true) ∧ Kp [] w w' := by
  obtain rfl : a0 = 4 := by omega
  obtain rfl : a1 = 1 := by omega
  exact run_bool (ds := pN4x1_dead) follows_mixed plans_ok hubDeaf.sumsG_ok (pN4x1_run) pN4x1_ok (fun i => if i = 0 then 4 else if i = 1 then 1 else 0) (fun x hx => by cases hx) (rgOk_cons (⟨Int.le_refl _, Int.le_refl _⟩) (rgOk_cons (⟨Int.le_refl _, Int.le_refl _⟩) (rgOk_nil))) (fun d hd => by simp [pN4x1_dead] at hd) (xs := [.int .i64 4, .int .i64 1]) (by rfl) w

def pN4x2_dead : List (List (SB × Bool)) := []
noncomputable def pN4x2_tree : R := fillT endT []
set_option maxRecDepth 1000000 in
theorem pN4x2_run : evCall Tryz.prog plans hubDeaf.sumsG 100000 6 [.int .i64 (.lit (.ofNat 4)), .int .i64 (.lit (.ofNat 2))] (s0 [] [[]] [((.ofNat 4), (.ofNat 4)), ((.ofNat 2), (.ofNat 2))]) finK = pN4x2_tree := by kernel_rfl
set_option maxRecDepth 1000000 in
theorem pN4x2_ok : okTree pN4x2_tree true [] pN4x2_dead = true := by kernel_rfl
theorem pN4x2_any (a0 : Int) (h0 : 4 ≤ a0 ∧ a0 ≤ 4) (a1 : Int) (h1 : 2 ≤ a1 ∧ a1 ≤ 2) (w : World) : Calls Tryz.prog 6 #[.int .i64 a0, .int .i64 a1] w fun e w' => e = .returned (.bool true) ∧ Kp [] w w' := by
  obtain rfl : a0 = 4 := by omega
  obtain rfl : a1 = 2 := by omega
  exact run_bool (ds := pN4x2_dead) follows_mixed plans_ok hubDeaf.sumsG_ok (pN4x2_run) pN4x2_ok (fun i => if i = 0 then 4 else if i = 1 then 2 else 0) (fun x hx => by cases hx) (rgOk_cons (⟨Int.le_refl _, Int.le_refl _⟩) (rgOk_cons (⟨Int.le_refl _, Int.le_refl _⟩) (rgOk_nil))) (fun d hd => by simp [pN4x2_dead] at hd) (xs := [.int .i64 4, .int .i64 2]) (by rfl) w

def pN4x3_dead : List (List (SB × Bool)) := []
noncomputable def pN4x3_tree : R := fillT endT []
set_option maxRecDepth 1000000 in
theorem pN4x3_run : evCall Tryz.prog plans hubDeaf.sumsG 100000 6 [.int .i64 (.lit (.ofNat 4)), .int .i64 (.lit (.ofNat 3))] (s0 [] [[]] [((.ofNat 4), (.ofNat 4)), ((.ofNat 3), (.ofNat 3))]) finK = pN4x3_tree := by kernel_rfl
set_option maxRecDepth 1000000 in
theorem pN4x3_ok : okTree pN4x3_tree true [] pN4x3_dead = true := by kernel_rfl
theorem pN4x3_any (a0 : Int) (h0 : 4 ≤ a0 ∧ a0 ≤ 4) (a1 : Int) (h1 : 3 ≤ a1 ∧ a1 ≤ 3) (w : World) : Calls Tryz.prog 6 #[.int .i64 a0, .int .i64 a1] w fun e w' => e = .returned (.bool true) ∧ Kp [] w w' := by
  obtain rfl : a0 = 4 := by omega
  obtain rfl : a1 = 3 := by omega
  exact run_bool (ds := pN4x3_dead) follows_mixed plans_ok hubDeaf.sumsG_ok (pN4x3_run) pN4x3_ok (fun i => if i = 0 then 4 else if i = 1 then 3 else 0) (fun x hx => by cases hx) (rgOk_cons (⟨Int.le_refl _, Int.le_refl _⟩) (rgOk_cons (⟨Int.le_refl _, Int.le_refl _⟩) (rgOk_nil))) (fun d hd => by simp [pN4x3_dead] at hd) (xs := [.int .i64 4, .int .i64 3]) (by rfl) w

def pN4x4_dead : List (List (SB × Bool)) := []
noncomputable def pN4x4_tree : R := fillT endT []
set_option maxRecDepth 1000000 in
theorem pN4x4_run : evCall Tryz.prog plans hubDeaf.sumsG 100000 6 [.int .i64 (.lit (.ofNat 4)), .int .i64 (.lit (.ofNat 4))] (s0 [] [[]] [((.ofNat 4), (.ofNat 4)), ((.ofNat 4), (.ofNat 4))]) finK = pN4x4_tree := by kernel_rfl
set_option maxRecDepth 1000000 in
theorem pN4x4_ok : okTree pN4x4_tree true [] pN4x4_dead = true := by kernel_rfl
theorem pN4x4_any (a0 : Int) (h0 : 4 ≤ a0 ∧ a0 ≤ 4) (a1 : Int) (h1 : 4 ≤ a1 ∧ a1 ≤ 4) (w : World) : Calls Tryz.prog 6 #[.int .i64 a0, .int .i64 a1] w fun e w' => e = .returned (.bool true) ∧ Kp [] w w' := by
  obtain rfl : a0 = 4 := by omega
  obtain rfl : a1 = 4 := by omega
  exact run_bool (ds := pN4x4_dead) follows_mixed plans_ok hubDeaf.sumsG_ok (pN4x4_run) pN4x4_ok (fun i => if i = 0 then 4 else if i = 1 then 4 else 0) (fun x hx => by cases hx) (rgOk_cons (⟨Int.le_refl _, Int.le_refl _⟩) (rgOk_cons (⟨Int.le_refl _, Int.le_refl _⟩) (rgOk_nil))) (fun d hd => by simp [pN4x4_dead] at hd) (xs := [.int .i64 4, .int .i64 4]) (by rfl) w

def pN5x0_dead : List (List (SB × Bool)) := []
noncomputable def pN5x0_tree : R := fillT endT []
set_option maxRecDepth 1000000 in
theorem pN5x0_run : evCall Tryz.prog plans hubDeaf.sumsG 100000 6 [.int .i64 (.lit (.ofNat 5)), .int .i64 (.lit (.ofNat 0))] (s0 [] [[]] [((.ofNat 5), (.ofNat 5)), ((.ofNat 0), (.ofNat 0))]) finK = pN5x0_tree := by kernel_rfl
set_option maxRecDepth 1000000 in
theorem pN5x0_ok : okTree pN5x0_tree true [] pN5x0_dead = true := by kernel_rfl
theorem pN5x0_any (a0 : Int) (h0 : 5 ≤ a0 ∧ a0 ≤ 5) (a1 : Int) (h1 : 0 ≤ a1 ∧ a1 ≤ 0) (w : World) : Calls Tryz.prog 6 #[.int .i64 a0, .int .i64 a1] w fun e w' => e = .returned (.bool true) ∧ Kp [] w w' := by
  obtain rfl : a0 = 5 := by omega
  obtain rfl : a1 = 0 := by omega
  exact run_bool (ds := pN5x0_dead) follows_mixed plans_ok hubDeaf.sumsG_ok (pN5x0_run) pN5x0_ok (fun i => if i = 0 then 5 else if i = 1 then 0 else 0) (fun x hx => by cases hx) (rgOk_cons (⟨Int.le_refl _, Int.le_refl _⟩) (rgOk_cons (⟨Int.le_refl _, Int.le_refl _⟩) (rgOk_nil))) (fun d hd => by simp [pN5x0_dead] at hd) (xs := [.int .i64 5, .int .i64 0]) (by rfl) w

def pN5x1_dead : List (List (SB × Bool)) := []
noncomputable def pN5x1_tree : R := fillT endT []
set_option maxRecDepth 1000000 in
theorem pN5x1_run : evCall Tryz.prog plans hubDeaf.sumsG 100000 6 [.int .i64 (.lit (.ofNat 5)), .int .i64 (.lit (.ofNat 1))] (s0 [] [[]] [((.ofNat 5), (.ofNat 5)), ((.ofNat 1), (.ofNat 1))]) finK = pN5x1_tree := by kernel_rfl
set_option maxRecDepth 1000000 in
theorem pN5x1_ok : okTree pN5x1_tree true [] pN5x1_dead = true := by kernel_rfl
theorem pN5x1_any (a0 : Int) (h0 : 5 ≤ a0 ∧ a0 ≤ 5) (a1 : Int) (h1 : 1 ≤ a1 ∧ a1 ≤ 1) (w : World) : Calls Tryz.prog 6 #[.int .i64 a0, .int .i64 a1] w fun e w' => e = .returned (.bool true) ∧ Kp [] w w' := by
  obtain rfl : a0 = 5 := by omega
  obtain rfl : a1 = 1 := by omega
  exact run_bool (ds := pN5x1_dead) follows_mixed plans_ok hubDeaf.sumsG_ok (pN5x1_run) pN5x1_ok (fun i => if i = 0 then 5 else if i = 1 then 1 else 0) (fun x hx => by cases hx) (rgOk_cons (⟨Int.le_refl _, Int.le_refl _⟩) (rgOk_cons (⟨Int.le_refl _, Int.le_refl _⟩) (rgOk_nil))) (fun d hd => by simp [pN5x1_dead] at hd) (xs := [.int .i64 5, .int .i64 1]) (by rfl) w

def pN5x2_dead : List (List (SB × Bool)) := []
noncomputable def pN5x2_tree : R := fillT endT []
set_option maxRecDepth 1000000 in
theorem pN5x2_run : evCall Tryz.prog plans hubDeaf.sumsG 100000 6 [.int .i64 (.lit (.ofNat 5)), .int .i64 (.lit (.ofNat 2))] (s0 [] [[]] [((.ofNat 5), (.ofNat 5)), ((.ofNat 2), (.ofNat 2))]) finK = pN5x2_tree := by kernel_rfl
set_option maxRecDepth 1000000 in
theorem pN5x2_ok : okTree pN5x2_tree true [] pN5x2_dead = true := by kernel_rfl
theorem pN5x2_any (a0 : Int) (h0 : 5 ≤ a0 ∧ a0 ≤ 5) (a1 : Int) (h1 : 2 ≤ a1 ∧ a1 ≤ 2) (w : World) : Calls Tryz.prog 6 #[.int .i64 a0, .int .i64 a1] w fun e w' => e = .returned (.bool true) ∧ Kp [] w w' := by
  obtain rfl : a0 = 5 := by omega
  obtain rfl : a1 = 2 := by omega
  exact run_bool (ds := pN5x2_dead) follows_mixed plans_ok hubDeaf.sumsG_ok (pN5x2_run) pN5x2_ok (fun i => if i = 0 then 5 else if i = 1 then 2 else 0) (fun x hx => by cases hx) (rgOk_cons (⟨Int.le_refl _, Int.le_refl _⟩) (rgOk_cons (⟨Int.le_refl _, Int.le_refl _⟩) (rgOk_nil))) (fun d hd => by simp [pN5x2_dead] at hd) (xs := [.int .i64 5, .int .i64 2]) (by rfl) w

def pN5x3_dead : List (List (SB × Bool)) := []
noncomputable def pN5x3_tree : R := fillT endT []
set_option maxRecDepth 1000000 in
theorem pN5x3_run : evCall Tryz.prog plans hubDeaf.sumsG 100000 6 [.int .i64 (.lit (.ofNat 5)), .int .i64 (.lit (.ofNat 3))] (s0 [] [[]] [((.ofNat 5), (.ofNat 5)), ((.ofNat 3), (.ofNat 3))]) finK = pN5x3_tree := by kernel_rfl
set_option maxRecDepth 1000000 in
theorem pN5x3_ok : okTree pN5x3_tree true [] pN5x3_dead = true := by kernel_rfl
theorem pN5x3_any (a0 : Int) (h0 : 5 ≤ a0 ∧ a0 ≤ 5) (a1 : Int) (h1 : 3 ≤ a1 ∧ a1 ≤ 3) (w : World) : Calls Tryz.prog 6 #[.int .i64 a0, .int .i64 a1] w fun e w' => e = .returned (.bool true) ∧ Kp [] w w' := by
  obtain rfl : a0 = 5 := by omega
  obtain rfl : a1 = 3 := by omega
  exact run_bool (ds := pN5x3_dead) follows_mixed plans_ok hubDeaf.sumsG_ok (pN5x3_run) pN5x3_ok (fun i => if i = 0 then 5 else if i = 1 then 3 else 0) (fun x hx => by cases hx) (rgOk_cons (⟨Int.le_refl _, Int.le_refl _⟩) (rgOk_cons (⟨Int.le_refl _, Int.le_refl _⟩) (rgOk_nil))) (fun d hd => by simp [pN5x3_dead] at hd) (xs := [.int .i64 5, .int .i64 3]) (by rfl) w

def pN5x4_dead : List (List (SB × Bool)) := []
noncomputable def pN5x4_tree : R := fillT endT []
set_option maxRecDepth 1000000 in
theorem pN5x4_run : evCall Tryz.prog plans hubDeaf.sumsG 100000 6 [.int .i64 (.lit (.ofNat 5)), .int .i64 (.lit (.ofNat 4))] (s0 [] [[]] [((.ofNat 5), (.ofNat 5)), ((.ofNat 4), (.ofNat 4))]) finK = pN5x4_tree := by kernel_rfl
set_option maxRecDepth 1000000 in
theorem pN5x4_ok : okTree pN5x4_tree true [] pN5x4_dead = true := by kernel_rfl
theorem pN5x4_any (a0 : Int) (h0 : 5 ≤ a0 ∧ a0 ≤ 5) (a1 : Int) (h1 : 4 ≤ a1 ∧ a1 ≤ 4) (w : World) : Calls Tryz.prog 6 #[.int .i64 a0, .int .i64 a1] w fun e w' => e = .returned (.bool true) ∧ Kp [] w w' := by
  obtain rfl : a0 = 5 := by omega
  obtain rfl : a1 = 4 := by omega
  exact run_bool (ds := pN5x4_dead) follows_mixed plans_ok hubDeaf.sumsG_ok (pN5x4_run) pN5x4_ok (fun i => if i = 0 then 5 else if i = 1 then 4 else 0) (fun x hx => by cases hx) (rgOk_cons (⟨Int.le_refl _, Int.le_refl _⟩) (rgOk_cons (⟨Int.le_refl _, Int.le_refl _⟩) (rgOk_nil))) (fun d hd => by simp [pN5x4_dead] at hd) (xs := [.int .i64 5, .int .i64 4]) (by rfl) w

def pN5x5_dead : List (List (SB × Bool)) := []
noncomputable def pN5x5_tree : R := fillT endT []
set_option maxRecDepth 1000000 in
theorem pN5x5_run : evCall Tryz.prog plans hubDeaf.sumsG 100000 6 [.int .i64 (.lit (.ofNat 5)), .int .i64 (.lit (.ofNat 5))] (s0 [] [[]] [((.ofNat 5), (.ofNat 5)), ((.ofNat 5), (.ofNat 5))]) finK = pN5x5_tree := by kernel_rfl
set_option maxRecDepth 1000000 in
theorem pN5x5_ok : okTree pN5x5_tree true [] pN5x5_dead = true := by kernel_rfl
theorem pN5x5_any (a0 : Int) (h0 : 5 ≤ a0 ∧ a0 ≤ 5) (a1 : Int) (h1 : 5 ≤ a1 ∧ a1 ≤ 5) (w : World) : Calls Tryz.prog 6 #[.int .i64 a0, .int .i64 a1] w fun e w' => e = .returned (.bool true) ∧ Kp [] w w' := by
  obtain rfl : a0 = 5 := by omega
  obtain rfl : a1 = 5 := by omega
  exact run_bool (ds := pN5x5_dead) follows_mixed plans_ok hubDeaf.sumsG_ok (pN5x5_run) pN5x5_ok (fun i => if i = 0 then 5 else if i = 1 then 5 else 0) (fun x hx => by cases hx) (rgOk_cons (⟨Int.le_refl _, Int.le_refl _⟩) (rgOk_cons (⟨Int.le_refl _, Int.le_refl _⟩) (rgOk_nil))) (fun d hd => by simp [pN5x5_dead] at hd) (xs := [.int .i64 5, .int .i64 5]) (by rfl) w

def pN6x0_dead : List (List (SB × Bool)) := []
noncomputable def pN6x0_tree : R := fillT endT []
set_option maxRecDepth 1000000 in
theorem pN6x0_run : evCall Tryz.prog plans hubDeaf.sumsG 100000 6 [.int .i64 (.lit (.ofNat 6)), .int .i64 (.lit (.ofNat 0))] (s0 [] [[]] [((.ofNat 6), (.ofNat 6)), ((.ofNat 0), (.ofNat 0))]) finK = pN6x0_tree := by kernel_rfl
set_option maxRecDepth 1000000 in
theorem pN6x0_ok : okTree pN6x0_tree true [] pN6x0_dead = true := by kernel_rfl
theorem pN6x0_any (a0 : Int) (h0 : 6 ≤ a0 ∧ a0 ≤ 6) (a1 : Int) (h1 : 0 ≤ a1 ∧ a1 ≤ 0) (w : World) : Calls Tryz.prog 6 #[.int .i64 a0, .int .i64 a1] w fun e w' => e = .returned (.bool true) ∧ Kp [] w w' := by
  obtain rfl : a0 = 6 := by omega
  obtain rfl : a1 = 0 := by omega
  exact run_bool (ds := pN6x0_dead) follows_mixed plans_ok hubDeaf.sumsG_ok (pN6x0_run) pN6x0_ok (fun i => if i = 0 then 6 else if i = 1 then 0 else 0) (fun x hx => by cases hx) (rgOk_cons (⟨Int.le_refl _, Int.le_refl _⟩) (rgOk_cons (⟨Int.le_refl _, Int.le_refl _⟩) (rgOk_nil))) (fun d hd => by simp [pN6x0_dead] at hd) (xs := [.int .i64 6, .int .i64 0]) (by rfl) w

def pN6x1_dead : List (List (SB × Bool)) := []
noncomputable def pN6x1_tree : R := fillT endT []
set_option maxRecDepth 1000000 in
theorem pN6x1_run : evCall Tryz.prog plans hubDeaf.sumsG 100000 6 [.int .i64 (.lit (.ofNat 6)), .int .i64 (.lit (.ofNat 1))] (s0 [] [[]] [((.ofNat 6), (.ofNat 6)), ((.ofNat 1), (.ofNat 1))]) finK = pN6x1_tree := by kernel_rfl
set_option maxRecDepth 1000000 in
theorem pN6x1_ok : okTree pN6x1_tree true [] pN6x1_dead = true := by kernel_rfl
theorem pN6x1_any (a0 : Int) (h0 : 6 ≤ a0 ∧ a0 ≤ 6) (a1 : Int) (h1 : 1 ≤ a1 ∧ a1 ≤ 1) (w : World) : Calls Tryz.prog 6 #[.int .i64 a0, .int .i64 a1] w fun e w' => e = .returned (.bool true) ∧ Kp [] w w' := by
  obtain rfl : a0 = 6 := by omega
  obtain rfl : a1 = 1 := by omega
  exact run_bool (ds := pN6x1_dead) follows_mixed plans_ok hubDeaf.sumsG_ok (pN6x1_run) pN6x1_ok (fun i => if i = 0 then 6 else if i = 1 then 1 else 0) (fun x hx => by cases hx) (rgOk_cons (⟨Int.le_refl _, Int.le_refl _⟩) (rgOk_cons (⟨Int.le_refl _, Int.le_refl _⟩) (rgOk_nil))) (fun d hd => by simp [pN6x1_dead] at hd) (xs := [.int .i64 6, .int .i64 1]) (by rfl) w

def pN6x2_dead : List (List (SB × Bool)) := []
noncomputable def pN6x2_tree : R := fillT endT []
set_option maxRecDepth 1000000 in
theorem pN6x2_run : evCall Tryz.prog plans hubDeaf.sumsG 100000 6 [.int .i64 (.lit (.ofNat 6)), .int .i64 (.lit (.ofNat 2))] (s0 [] [[]] [((.ofNat 6), (.ofNat 6)), ((.ofNat 2), (.ofNat 2))]) finK = pN6x2_tree := by kernel_rfl
set_option maxRecDepth 1000000 in
theorem pN6x2_ok : okTree pN6x2_tree true [] pN6x2_dead = true := by kernel_rfl
theorem pN6x2_any (a0 : Int) (h0 : 6 ≤ a0 ∧ a0 ≤ 6) (a1 : Int) (h1 : 2 ≤ a1 ∧ a1 ≤ 2) (w : World) : Calls Tryz.prog 6 #[.int .i64 a0, .int .i64 a1] w fun e w' => e = .returned (.bool true) ∧ Kp [] w w' := by
  obtain rfl : a0 = 6 := by omega
  obtain rfl : a1 = 2 := by omega
  exact run_bool (ds := pN6x2_dead) follows_mixed plans_ok hubDeaf.sumsG_ok (pN6x2_run) pN6x2_ok (fun i => if i = 0 then 6 else if i = 1 then 2 else 0) (fun x hx => by cases hx) (rgOk_cons (⟨Int.le_refl _, Int.le_refl _⟩) (rgOk_cons (⟨Int.le_refl _, Int.le_refl _⟩) (rgOk_nil))) (fun d hd => by simp [pN6x2_dead] at hd) (xs := [.int .i64 6, .int .i64 2]) (by rfl) w

def pN6x3_dead : List (List (SB × Bool)) := []
noncomputable def pN6x3_tree : R := fillT endT []
set_option maxRecDepth 1000000 in
theorem pN6x3_run : evCall Tryz.prog plans hubDeaf.sumsG 100000 6 [.int .i64 (.lit (.ofNat 6)), .int .i64 (.lit (.ofNat 3))] (s0 [] [[]] [((.ofNat 6), (.ofNat 6)), ((.ofNat 3), (.ofNat 3))]) finK = pN6x3_tree := by kernel_rfl
set_option maxRecDepth 1000000 in
theorem pN6x3_ok : okTree pN6x3_tree true [] pN6x3_dead = true := by kernel_rfl
theorem pN6x3_any (a0 : Int) (h0 : 6 ≤ a0 ∧ a0 ≤ 6) (a1 : Int) (h1 : 3 ≤ a1 ∧ a1 ≤ 3) (w : World) : Calls Tryz.prog 6 #[.int .i64 a0, .int .i64 a1] w fun e w' => e = .returned (.bool true) ∧ Kp [] w w' := by
  obtain rfl : a0 = 6 := by omega
  obtain rfl : a1 = 3 := by omega
  exact run_bool (ds := pN6x3_dead) follows_mixed plans_ok hubDeaf.sumsG_ok (pN6x3_run) pN6x3_ok (fun i => if i = 0 then 6 else if i = 1 then 3 else 0) (fun x hx => by cases hx) (rgOk_cons (⟨Int.le_refl _, Int.le_refl _⟩) (rgOk_cons (⟨Int.le_refl _, Int.le_refl _⟩) (rgOk_nil))) (fun d hd => by simp [pN6x3_dead] at hd) (xs := [.int .i64 6, .int .i64 3]) (by rfl) w

def pN6x4_dead : List (List (SB × Bool)) := []
noncomputable def pN6x4_tree : R := fillT endT []
set_option maxRecDepth 1000000 in
theorem pN6x4_run : evCall Tryz.prog plans hubDeaf.sumsG 100000 6 [.int .i64 (.lit (.ofNat 6)), .int .i64 (.lit (.ofNat 4))] (s0 [] [[]] [((.ofNat 6), (.ofNat 6)), ((.ofNat 4), (.ofNat 4))]) finK = pN6x4_tree := by kernel_rfl
set_option maxRecDepth 1000000 in
theorem pN6x4_ok : okTree pN6x4_tree true [] pN6x4_dead = true := by kernel_rfl
theorem pN6x4_any (a0 : Int) (h0 : 6 ≤ a0 ∧ a0 ≤ 6) (a1 : Int) (h1 : 4 ≤ a1 ∧ a1 ≤ 4) (w : World) : Calls Tryz.prog 6 #[.int .i64 a0, .int .i64 a1] w fun e w' => e = .returned (.bool true) ∧ Kp [] w w' := by
  obtain rfl : a0 = 6 := by omega
  obtain rfl : a1 = 4 := by omega
  exact run_bool (ds := pN6x4_dead) follows_mixed plans_ok hubDeaf.sumsG_ok (pN6x4_run) pN6x4_ok (fun i => if i = 0 then 6 else if i = 1 then 4 else 0) (fun x hx => by cases hx) (rgOk_cons (⟨Int.le_refl _, Int.le_refl _⟩) (rgOk_cons (⟨Int.le_refl _, Int.le_refl _⟩) (rgOk_nil))) (fun d hd => by simp [pN6x4_dead] at hd) (xs := [.int .i64 6, .int .i64 4]) (by rfl) w

def pN6x5_dead : List (List (SB × Bool)) := []
noncomputable def pN6x5_tree : R := fillT endT []
set_option maxRecDepth 1000000 in
theorem pN6x5_run : evCall Tryz.prog plans hubDeaf.sumsG 100000 6 [.int .i64 (.lit (.ofNat 6)), .int .i64 (.lit (.ofNat 5))] (s0 [] [[]] [((.ofNat 6), (.ofNat 6)), ((.ofNat 5), (.ofNat 5))]) finK = pN6x5_tree := by kernel_rfl
set_option maxRecDepth 1000000 in
theorem pN6x5_ok : okTree pN6x5_tree true [] pN6x5_dead = true := by kernel_rfl
theorem pN6x5_any (a0 : Int) (h0 : 6 ≤ a0 ∧ a0 ≤ 6) (a1 : Int) (h1 : 5 ≤ a1 ∧ a1 ≤ 5) (w : World) : Calls Tryz.prog 6 #[.int .i64 a0, .int .i64 a1] w fun e w' => e = .returned (.bool true) ∧ Kp [] w w' := by
  obtain rfl : a0 = 6 := by omega
  obtain rfl : a1 = 5 := by omega
  exact run_bool (ds := pN6x5_dead) follows_mixed plans_ok hubDeaf.sumsG_ok (pN6x5_run) pN6x5_ok (fun i => if i = 0 then 6 else if i = 1 then 5 else 0) (fun x hx => by cases hx) (rgOk_cons (⟨Int.le_refl _, Int.le_refl _⟩) (rgOk_cons (⟨Int.le_refl _, Int.le_refl _⟩) (rgOk_nil))) (fun d hd => by simp [pN6x5_dead] at hd) (xs := [.int .i64 6, .int .i64 5]) (by rfl) w

def pN6x6_dead : List (List (SB × Bool)) := []
noncomputable def pN6x6_tree : R := fillT endT []
set_option maxRecDepth 1000000 in
theorem pN6x6_run : evCall Tryz.prog plans hubDeaf.sumsG 100000 6 [.int .i64 (.lit (.ofNat 6)), .int .i64 (.lit (.ofNat 6))] (s0 [] [[]] [((.ofNat 6), (.ofNat 6)), ((.ofNat 6), (.ofNat 6))]) finK = pN6x6_tree := by kernel_rfl
set_option maxRecDepth 1000000 in
theorem pN6x6_ok : okTree pN6x6_tree true [] pN6x6_dead = true := by kernel_rfl
theorem pN6x6_any (a0 : Int) (h0 : 6 ≤ a0 ∧ a0 ≤ 6) (a1 : Int) (h1 : 6 ≤ a1 ∧ a1 ≤ 6) (w : World) : Calls Tryz.prog 6 #[.int .i64 a0, .int .i64 a1] w fun e w' => e = .returned (.bool true) ∧ Kp [] w w' := by
  obtain rfl : a0 = 6 := by omega
  obtain rfl : a1 = 6 := by omega
  exact run_bool (ds := pN6x6_dead) follows_mixed plans_ok hubDeaf.sumsG_ok (pN6x6_run) pN6x6_ok (fun i => if i = 0 then 6 else if i = 1 then 6 else 0) (fun x hx => by cases hx) (rgOk_cons (⟨Int.le_refl _, Int.le_refl _⟩) (rgOk_cons (⟨Int.le_refl _, Int.le_refl _⟩) (rgOk_nil))) (fun d hd => by simp [pN6x6_dead] at hd) (xs := [.int .i64 6, .int .i64 6]) (by rfl) w

def pN7x0_dead : List (List (SB × Bool)) := []
noncomputable def pN7x0_tree : R := fillT endT []
set_option maxRecDepth 1000000 in
theorem pN7x0_run : evCall Tryz.prog plans hubDeaf.sumsG 100000 6 [.int .i64 (.lit (.ofNat 7)), .int .i64 (.lit (.ofNat 0))] (s0 [] [[]] [((.ofNat 7), (.ofNat 7)), ((.ofNat 0), (.ofNat 0))]) finK = pN7x0_tree := by kernel_rfl
set_option maxRecDepth 1000000 in
theorem pN7x0_ok : okTree pN7x0_tree true [] pN7x0_dead = true := by kernel_rfl
theorem pN7x0_any (a0 : Int) (h0 : 7 ≤ a0 ∧ a0 ≤ 7) (a1 : Int) (h1 : 0 ≤ a1 ∧ a1 ≤ 0) (w : World) : Calls Tryz.prog 6 #[.int .i64 a0, .int .i64 a1] w fun e w' => e = .returned (.bool true) ∧ Kp [] w w' := by
  obtain rfl : a0 = 7 := by omega
  obtain rfl : a1 = 0 := by omega
  exact run_bool (ds := pN7x0_dead) follows_mixed plans_ok hubDeaf.sumsG_ok (pN7x0_run) pN7x0_ok (fun i => if i = 0 then 7 else if i = 1 then 0 else 0) (fun x hx => by cases hx) (rgOk_cons (⟨Int.le_refl _, Int.le_refl _⟩) (rgOk_cons (⟨Int.le_refl _, Int.le_refl _⟩) (rgOk_nil))) (fun d hd => by simp [pN7x0_dead] at hd) (xs := [.int .i64 7, .int .i64 0]) (by rfl) w

def pN7x1_dead : List (List (SB × Bool)) := []
noncomputable def pN7x1_tree : R := fillT endT []
set_option maxRecDepth 1000000 in
theorem pN7x1_run : evCall Tryz.prog plans hubDeaf.sumsG 100000 6 [.int .i64 (.lit (.ofNat 7)), .int .i64 (.lit (.ofNat 1))] (s0 [] [[]] [((.ofNat 7), (.ofNat 7)), ((.ofNat 1), (.ofNat 1))]) finK = pN7x1_tree := by kernel_rfl
set_option maxRecDepth 1000000 in
theorem pN7x1_ok : okTree pN7x1_tree true [] pN7x1_dead = true := by kernel_rfl
theorem pN7x1_any (a0 : Int) (h0 : 7 ≤ a0 ∧ a0 ≤ 7) (a1 : Int) (h1 : 1 ≤ a1 ∧ a1 ≤ 1) (w : World) : Calls Tryz.prog 6 #[.int .i64 a0, .int .i64 a1] w fun e w' => e = .returned (.bool true) ∧ Kp [] w w' := by
  obtain rfl : a0 = 7 := by omega
  obtain rfl : a1 = 1 := by omega
  exact run_bool (ds := pN7x1_dead) follows_mixed plans_ok hubDeaf.sumsG_ok (pN7x1_run) pN7x1_ok (fun i => if i = 0 then 7 else if i = 1 then 1 else 0) (fun x hx => by cases hx) (rgOk_cons (⟨Int.le_refl _, Int.le_refl _⟩) (rgOk_cons (⟨Int.le_refl _, Int.le_refl _⟩) (rgOk_nil))) (fun d hd => by simp [pN7x1_dead] at hd) (xs := [.int .i64 7, .int .i64 1]) (by rfl) w

def pN7x2_dead : List (List (SB × Bool)) := []
noncomputable def pN7x2_tree : R := fillT endT []
set_option maxRecDepth 1000000 in
theorem pN7x2_run : evCall Tryz.prog plans hubDeaf.sumsG 100000 6 [.int .i64 (.lit (.ofNat 7)), .int .i64 (.lit (.ofNat 2))] (s0 [] [[]] [((.ofNat 7), (.ofNat 7)), ((.ofNat 2), (.ofNat 2))]) finK = pN7x2_tree := by kernel_rfl
set_option maxRecDepth 1000000 in
theorem pN7x2_ok : okTree pN7x2_tree true [] pN7x2_dead = true := by kernel_rfl
theorem pN7x2_any (a0 : Int) (h0 : 7 ≤ a0 ∧ a0 ≤ 7) (a1 : Int) (h1 : 2 ≤ a1 ∧ a1 ≤ 2) (w : World) : Calls Tryz.prog 6 #[.int .i64 a0, .int .i64 a1] w fun e w' => e = .returned (.bool true) ∧ Kp [] w w' := by
  obtain rfl : a0 = 7 := by omega
  obtain rfl : a1 = 2 := by omega
  exact run_bool (ds := pN7x2_dead) follows_mixed plans_ok hubDeaf.sumsG_ok (pN7x2_run) pN7x2_ok (fun i => if i = 0 then 7 else if i = 1 then 2 else 0) (fun x hx => by cases hx) (rgOk_cons (⟨Int.le_refl _, Int.le_refl _⟩) (rgOk_cons (⟨Int.le_refl _, Int.le_refl _⟩) (rgOk_nil))) (fun d hd => by simp [pN7x2_dead] at hd) (xs := [.int .i64 7, .int .i64 2]) (by rfl) w

def pN7x3_dead : List (List (SB × Bool)) := []
noncomputable def pN7x3_tree : R := fillT endT []
set_option maxRecDepth 1000000 in
theorem pN7x3_run : evCall Tryz.prog plans hubDeaf.sumsG 100000 6 [.int .i64 (.lit (.ofNat 7)), .int .i64 (.lit (.ofNat 3))] (s0 [] [[]] [((.ofNat 7), (.ofNat 7)), ((.ofNat 3), (.ofNat 3))]) finK = pN7x3_tree := by kernel_rfl
set_option maxRecDepth 1000000 in
theorem pN7x3_ok : okTree pN7x3_tree true [] pN7x3_dead = true := by kernel_rfl
theorem pN7x3_any (a0 : Int) (h0 : 7 ≤ a0 ∧ a0 ≤ 7) (a1 : Int) (h1 : 3 ≤ a1 ∧ a1 ≤ 3) (w : World) : Calls Tryz.prog 6 #[.int .i64 a0, .int .i64 a1] w fun e w' => e = .returned (.bool true) ∧ Kp [] w w' := by
  obtain rfl : a0 = 7 := by omega
  obtain rfl : a1 = 3 := by omega
  exact run_bool (ds := pN7x3_dead) follows_mixed plans_ok hubDeaf.sumsG_ok (pN7x3_run) pN7x3_ok (fun i => if i = 0 then 7 else if i = 1 then 3 else 0) (fun x hx => by cases hx) (rgOk_cons (⟨Int.le_refl _, Int.le_refl _⟩) (rgOk_cons (⟨Int.le_refl _, Int.le_refl _⟩) (rgOk_nil))) (fun d hd => by simp [pN7x3_dead] at hd) (xs := [.int .i64 7, .int .i64 3]) (by rfl) w

end Go.Proofs.YtlmpmmcefdhgmaaGreat.hubDeaf

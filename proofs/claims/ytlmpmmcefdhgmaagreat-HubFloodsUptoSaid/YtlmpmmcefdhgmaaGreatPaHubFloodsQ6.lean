/-
  HubFloods: runs, M22, M23, M24, M25, M26, M27, M28, M29, M30.
-/
import Derived.Test.YtlmpmmcefdhgmaaGreatSgFS
import Derived.Test.YtlmpmmcefdhgmaaGreatRs
import Derived.Test.YtlmpmmcefdhgmaaGreatPlsOk
import Derived.Test.YtlmpmmcefdhgmaaGreatAccFOk
import Derived.Test.YtlmpmmcefdhgmaaGreatAccFOk
import Derived.Test.YtlmpmmcefdhgmaaGreatAccFOk
import Derived.Test.YtlmpmmcefdhgmaaGreatAccFOk
import Derived.Test.YtlmpmmcefdhgmaaGreatAccFOk
import Derived.Test.YtlmpmmcefdhgmaaGreatAccFOk
import Derived.Test.YtlmpmmcefdhgmaaGreatAccFOk
import Derived.Test.YtlmpmmcefdhgmaaGreatAccFOk
import Derived.Test.YtlmpmmcefdhgmaaGreatAccFOk
set_option linter.unusedVariables false
set_option linter.unusedSimpArgs false
namespace Go.Proofs.YtlmpmmcefdhgmaaGreat.hubFloods
open Go

def pM22_dead : List (List (SB × Bool)) := []
noncomputable def pM22_tree : R := fillT endT []
set_option maxRecDepth 1000000 in
theorem pM22_run : evCall Tryz.prog plansM22 hubFloods.sumsG 100000 3 [.int .i64 (.var 0), .int .i64 (.var 1), .int .i64 (.var 2)] (s0 [] [[]] [((.ofNat 23), (.ofNat 300)), ((.ofNat 22), (.ofNat 22)), ((.ofNat 1), (.ofNat 65535)), ((.ofNat 22), (.ofNat 299))]) finK = pM22_tree := by kernel_rfl
set_option maxRecDepth 1000000 in
theorem pM22_ok : okTree pM22_tree true [] pM22_dead = true := by kernel_rfl
theorem pM22_any (a0 : Int) (h0 : 23 ≤ a0 ∧ a0 ≤ 300) (a1 : Int) (h1 : 22 ≤ a1 ∧ a1 ≤ 22) (a2 : Int) (h2 : 1 ≤ a2 ∧ a2 ≤ 65535) (w : World) : Calls Tryz.prog 3 #[.int .i64 a0, .int .i64 a1, .int .i64 a2] w fun e w' => e = .returned (.bool true) ∧ Kp [] w w' := by
  obtain rfl : a1 = 22 := by omega
  exact run_bool (ds := pM22_dead) follows_mixed plansM22_ok hubFloods.sumsG_ok (pM22_run) pM22_ok (fun i => if i = 0 then a0 else if i = 1 then 22 else if i = 2 then a2 else if i = 3 then 22 else 0) (fun x hx => by cases hx) (rgOk_cons (⟨h0.1, h0.2⟩) (rgOk_cons (⟨Int.le_refl _, Int.le_refl _⟩) (rgOk_cons (⟨h2.1, h2.2⟩) (rgOk_cons (⟨Int.le_refl _, (by decide : (22 : Int) ≤ 299)⟩) (rgOk_nil))))) (fun d hd => by simp [pM22_dead] at hd) (xs := [.int .i64 a0, .int .i64 22, .int .i64 a2]) (by rfl) w

def pM23_dead : List (List (SB × Bool)) := []
noncomputable def pM23_tree : R := fillT endT []
set_option maxRecDepth 1000000 in
theorem pM23_run : evCall Tryz.prog plansM23 hubFloods.sumsG 100000 3 [.int .i64 (.var 0), .int .i64 (.var 1), .int .i64 (.var 2)] (s0 [] [[]] [((.ofNat 24), (.ofNat 300)), ((.ofNat 23), (.ofNat 23)), ((.ofNat 1), (.ofNat 65535)), ((.ofNat 23), (.ofNat 299))]) finK = pM23_tree := by kernel_rfl
set_option maxRecDepth 1000000 in
theorem pM23_ok : okTree pM23_tree true [] pM23_dead = true := by kernel_rfl
theorem pM23_any (a0 : Int) (h0 : 24 ≤ a0 ∧ a0 ≤ 300) (a1 : Int) (h1 : 23 ≤ a1 ∧ a1 ≤ 23) (a2 : Int) (h2 : 1 ≤ a2 ∧ a2 ≤ 65535) (w : World) : Calls Tryz.prog 3 #[.int .i64 a0, .int .i64 a1, .int .i64 a2] w fun e w' => e = .returned (.bool true) ∧ Kp [] w w' := by
  obtain rfl : a1 = 23 := by omega
  exact run_bool (ds := pM23_dead) follows_mixed plansM23_ok hubFloods.sumsG_ok (pM23_run) pM23_ok (fun i => if i = 0 then a0 else if i = 1 then 23 else if i = 2 then a2 else if i = 3 then 23 else 0) (fun x hx => by cases hx) (rgOk_cons (⟨h0.1, h0.2⟩) (rgOk_cons (⟨Int.le_refl _, Int.le_refl _⟩) (rgOk_cons (⟨h2.1, h2.2⟩) (rgOk_cons (⟨Int.le_refl _, (by decide : (23 : Int) ≤ 299)⟩) (rgOk_nil))))) (fun d hd => by simp [pM23_dead] at hd) (xs := [.int .i64 a0, .int .i64 23, .int .i64 a2]) (by rfl) w

def pM24_dead : List (List (SB × Bool)) := []
noncomputable def pM24_tree : R := fillT endT []
set_option maxRecDepth 1000000 in
theorem pM24_run : evCall Tryz.prog plansM24 hubFloods.sumsG 100000 3 [.int .i64 (.var 0), .int .i64 (.var 1), .int .i64 (.var 2)] (s0 [] [[]] [((.ofNat 25), (.ofNat 300)), ((.ofNat 24), (.ofNat 24)), ((.ofNat 1), (.ofNat 65535)), ((.ofNat 24), (.ofNat 299))]) finK = pM24_tree := by kernel_rfl
set_option maxRecDepth 1000000 in
theorem pM24_ok : okTree pM24_tree true [] pM24_dead = true := by kernel_rfl
theorem pM24_any (a0 : Int) (h0 : 25 ≤ a0 ∧ a0 ≤ 300) (a1 : Int) (h1 : 24 ≤ a1 ∧ a1 ≤ 24) (a2 : Int) (h2 : 1 ≤ a2 ∧ a2 ≤ 65535) (w : World) : Calls Tryz.prog 3 #[.int .i64 a0, .int .i64 a1, .int .i64 a2] w fun e w' => e = .returned (.bool true) ∧ Kp [] w w' := by
  obtain rfl : a1 = 24 := by omega
  exact run_bool (ds := pM24_dead) follows_mixed plansM24_ok hubFloods.sumsG_ok (pM24_run) pM24_ok (fun i => if i = 0 then a0 else if i = 1 then 24 else if i = 2 then a2 else if i = 3 then 24 else 0) (fun x hx => by cases hx) (rgOk_cons (⟨h0.1, h0.2⟩) (rgOk_cons (⟨Int.le_refl _, Int.le_refl _⟩) (rgOk_cons (⟨h2.1, h2.2⟩) (rgOk_cons (⟨Int.le_refl _, (by decide : (24 : Int) ≤ 299)⟩) (rgOk_nil))))) (fun d hd => by simp [pM24_dead] at hd) (xs := [.int .i64 a0, .int .i64 24, .int .i64 a2]) (by rfl) w

def pM25_dead : List (List (SB × Bool)) := []
noncomputable def pM25_tree : R := fillT endT []
set_option maxRecDepth 1000000 in
theorem pM25_run : evCall Tryz.prog plansM25 hubFloods.sumsG 100000 3 [.int .i64 (.var 0), .int .i64 (.var 1), .int .i64 (.var 2)] (s0 [] [[]] [((.ofNat 26), (.ofNat 300)), ((.ofNat 25), (.ofNat 25)), ((.ofNat 1), (.ofNat 65535)), ((.ofNat 25), (.ofNat 299))]) finK = pM25_tree := by kernel_rfl
set_option maxRecDepth 1000000 in
theorem pM25_ok : okTree pM25_tree true [] pM25_dead = true := by kernel_rfl
theorem pM25_any (a0 : Int) (h0 : 26 ≤ a0 ∧ a0 ≤ 300) (a1 : Int) (h1 : 25 ≤ a1 ∧ a1 ≤ 25) (a2 : Int) (h2 : 1 ≤ a2 ∧ a2 ≤ 65535) (w : World) : Calls Tryz.prog 3 #[.int .i64 a0, .int .i64 a1, .int .i64 a2] w fun e w' => e = .returned (.bool true) ∧ Kp [] w w' := by
  obtain rfl : a1 = 25 := by omega
  exact run_bool (ds := pM25_dead) follows_mixed plansM25_ok hubFloods.sumsG_ok (pM25_run) pM25_ok (fun i => if i = 0 then a0 else if i = 1 then 25 else if i = 2 then a2 else if i = 3 then 25 else 0) (fun x hx => by cases hx) (rgOk_cons (⟨h0.1, h0.2⟩) (rgOk_cons (⟨Int.le_refl _, Int.le_refl _⟩) (rgOk_cons (⟨h2.1, h2.2⟩) (rgOk_cons (⟨Int.le_refl _, (by decide : (25 : Int) ≤ 299)⟩) (rgOk_nil))))) (fun d hd => by simp [pM25_dead] at hd) (xs := [.int .i64 a0, .int .i64 25, .int .i64 a2]) (by rfl) w

def pM26_dead : List (List (SB × Bool)) := []
noncomputable def pM26_tree : R := fillT endT []
set_option maxRecDepth 1000000 in
theorem pM26_run : evCall Tryz.prog plansM26 hubFloods.sumsG 100000 3 [.int .i64 (.var 0), .int .i64 (.var 1), .int .i64 (.var 2)] (s0 [] [[]] [((.ofNat 27), (.ofNat 300)), ((.ofNat 26), (.ofNat 26)), ((.ofNat 1), (.ofNat 65535)), ((.ofNat 26), (.ofNat 299))]) finK = pM26_tree := by kernel_rfl
set_option maxRecDepth 1000000 in
theorem pM26_ok : okTree pM26_tree true [] pM26_dead = true := by kernel_rfl
theorem pM26_any (a0 : Int) (h0 : 27 ≤ a0 ∧ a0 ≤ 300) (a1 : Int) (h1 : 26 ≤ a1 ∧ a1 ≤ 26) (a2 : Int) (h2 : 1 ≤ a2 ∧ a2 ≤ 65535) (w : World) : Calls Tryz.prog 3 #[.int .i64 a0, .int .i64 a1, .int .i64 a2] w fun e w' => e = .returned (.bool true) ∧ Kp [] w w' := by
  obtain rfl : a1 = 26 := by omega
  exact run_bool (ds := pM26_dead) follows_mixed plansM26_ok hubFloods.sumsG_ok (pM26_run) pM26_ok (fun i => if i = 0 then a0 else if i = 1 then 26 else if i = 2 then a2 else if i = 3 then 26 else 0) (fun x hx => by cases hx) (rgOk_cons (⟨h0.1, h0.2⟩) (rgOk_cons (⟨Int.le_refl _, Int.le_refl _⟩) (rgOk_cons (⟨h2.1, h2.2⟩) (rgOk_cons (⟨Int.le_refl _, (by decide : (26 : Int) ≤ 299)⟩) (rgOk_nil))))) (fun d hd => by simp [pM26_dead] at hd) (xs := [.int .i64 a0, .int .i64 26, .int .i64 a2]) (by rfl) w

def pM27_dead : List (List (SB × Bool)) := []
noncomputable def pM27_tree : R := fillT endT []
set_option maxRecDepth 1000000 in
theorem pM27_run : evCall Tryz.prog plansM27 hubFloods.sumsG 100000 3 [.int .i64 (.var 0), .int .i64 (.var 1), .int .i64 (.var 2)] (s0 [] [[]] [((.ofNat 28), (.ofNat 300)), ((.ofNat 27), (.ofNat 27)), ((.ofNat 1), (.ofNat 65535)), ((.ofNat 27), (.ofNat 299))]) finK = pM27_tree := by kernel_rfl
set_option maxRecDepth 1000000 in
theorem pM27_ok : okTree pM27_tree true [] pM27_dead = true := by kernel_rfl
theorem pM27_any (a0 : Int) (h0 : 28 ≤ a0 ∧ a0 ≤ 300) (a1 : Int) (h1 : 27 ≤ a1 ∧ a1 ≤ 27) (a2 : Int) (h2 : 1 ≤ a2 ∧ a2 ≤ 65535) (w : World) : Calls Tryz.prog 3 #[.int .i64 a0, .int .i64 a1, .int .i64 a2] w fun e w' => e = .returned (.bool true) ∧ Kp [] w w' := by
  obtain rfl : a1 = 27 := by omega
  exact run_bool (ds := pM27_dead) follows_mixed plansM27_ok hubFloods.sumsG_ok (pM27_run) pM27_ok (fun i => if i = 0 then a0 else if i = 1 then 27 else if i = 2 then a2 else if i = 3 then 27 else 0) (fun x hx => by cases hx) (rgOk_cons (⟨h0.1, h0.2⟩) (rgOk_cons (⟨Int.le_refl _, Int.le_refl _⟩) (rgOk_cons (⟨h2.1, h2.2⟩) (rgOk_cons (⟨Int.le_refl _, (by decide : (27 : Int) ≤ 299)⟩) (rgOk_nil))))) (fun d hd => by simp [pM27_dead] at hd) (xs := [.int .i64 a0, .int .i64 27, .int .i64 a2]) (by rfl) w

def pM28_dead : List (List (SB × Bool)) := []
noncomputable def pM28_tree : R := fillT endT []
set_option maxRecDepth 1000000 in
theorem pM28_run : evCall Tryz.prog plansM28 hubFloods.sumsG 100000 3 [.int .i64 (.var 0), .int .i64 (.var 1), .int .i64 (.var 2)] (s0 [] [[]] [((.ofNat 29), (.ofNat 300)), ((.ofNat 28), (.ofNat 28)), ((.ofNat 1), (.ofNat 65535)), ((.ofNat 28), (.ofNat 299))]) finK = pM28_tree := by kernel_rfl
set_option maxRecDepth 1000000 in
theorem pM28_ok : okTree pM28_tree true [] pM28_dead = true := by kernel_rfl
theorem pM28_any (a0 : Int) (h0 : 29 ≤ a0 ∧ a0 ≤ 300) (a1 : Int) (h1 : 28 ≤ a1 ∧ a1 ≤ 28) (a2 : Int) (h2 : 1 ≤ a2 ∧ a2 ≤ 65535) (w : World) : Calls Tryz.prog 3 #[.int .i64 a0, .int .i64 a1, .int .i64 a2] w fun e w' => e = .returned (.bool true) ∧ Kp [] w w' := by
  obtain rfl : a1 = 28 := by omega
  exact run_bool (ds := pM28_dead) follows_mixed plansM28_ok hubFloods.sumsG_ok (pM28_run) pM28_ok (fun i => if i = 0 then a0 else if i = 1 then 28 else if i = 2 then a2 else if i = 3 then 28 else 0) (fun x hx => by cases hx) (rgOk_cons (⟨h0.1, h0.2⟩) (rgOk_cons (⟨Int.le_refl _, Int.le_refl _⟩) (rgOk_cons (⟨h2.1, h2.2⟩) (rgOk_cons (⟨Int.le_refl _, (by decide : (28 : Int) ≤ 299)⟩) (rgOk_nil))))) (fun d hd => by simp [pM28_dead] at hd) (xs := [.int .i64 a0, .int .i64 28, .int .i64 a2]) (by rfl) w

def pM29_dead : List (List (SB × Bool)) := []
noncomputable def pM29_tree : R := fillT endT []
set_option maxRecDepth 1000000 in
theorem pM29_run : evCall Tryz.prog plansM29 hubFloods.sumsG 100000 3 [.int .i64 (.var 0), .int .i64 (.var 1), .int .i64 (.var 2)] (s0 [] [[]] [((.ofNat 30), (.ofNat 300)), ((.ofNat 29), (.ofNat 29)), ((.ofNat 1), (.ofNat 65535)), ((.ofNat 29), (.ofNat 299))]) finK = pM29_tree := by kernel_rfl
set_option maxRecDepth 1000000 in
theorem pM29_ok : okTree pM29_tree true [] pM29_dead = true := by kernel_rfl
theorem pM29_any (a0 : Int) (h0 : 30 ≤ a0 ∧ a0 ≤ 300) (a1 : Int) (h1 : 29 ≤ a1 ∧ a1 ≤ 29) (a2 : Int) (h2 : 1 ≤ a2 ∧ a2 ≤ 65535) (w : World) : Calls Tryz.prog 3 #[.int .i64 a0, .int .i64 a1, .int .i64 a2] w fun e w' => e = .returned (.bool true) ∧ Kp [] w w' := by
  obtain rfl : a1 = 29 := by omega
  exact run_bool (ds := pM29_dead) follows_mixed plansM29_ok hubFloods.sumsG_ok (pM29_run) pM29_ok (fun i => if i = 0 then a0 else if i = 1 then 29 else if i = 2 then a2 else if i = 3 then 29 else 0) (fun x hx => by cases hx) (rgOk_cons (⟨h0.1, h0.2⟩) (rgOk_cons (⟨Int.le_refl _, Int.le_refl _⟩) (rgOk_cons (⟨h2.1, h2.2⟩) (rgOk_cons (⟨Int.le_refl _, (by decide : (29 : Int) ≤ 299)⟩) (rgOk_nil))))) (fun d hd => by simp [pM29_dead] at hd) (xs := [.int .i64 a0, .int .i64 29, .int .i64 a2]) (by rfl) w

def pM30_dead : List (List (SB × Bool)) := []
noncomputable def pM30_tree : R := fillT endT []
set_option maxRecDepth 1000000 in
theorem pM30_run : evCall Tryz.prog plansM30 hubFloods.sumsG 100000 3 [.int .i64 (.var 0), .int .i64 (.var 1), .int .i64 (.var 2)] (s0 [] [[]] [((.ofNat 31), (.ofNat 300)), ((.ofNat 30), (.ofNat 30)), ((.ofNat 1), (.ofNat 65535)), ((.ofNat 30), (.ofNat 299))]) finK = pM30_tree := by kernel_rfl
set_option maxRecDepth 1000000 in
theorem pM30_ok : okTree pM30_tree true [] pM30_dead = true := by kernel_rfl
theorem pM30_any (a0 : Int) (h0 : 31 ≤ a0 ∧ a0 ≤ 300) (a1 : Int) (h1 : 30 ≤ a1 ∧ a1 ≤ 30) (a2 : Int) (h2 : 1 ≤ a2 ∧ a2 ≤ 65535) (w : World) : Calls Tryz.prog 3 #[.int .i64 a0, .int .i64 a1, .int .i64 a2] w fun e w' => e = .returned (.bool true) ∧ Kp [] w w' := by
  obtain rfl : a1 = 30 := by omega
  exact run_bool (ds := pM30_dead) follows_mixed plansM30_ok hubFloods.sumsG_ok (pM30_run) pM30_ok (fun i => if i = 0 then a0 else if i = 1 then 30 else if i = 2 then a2 else if i = 3 then 30 else 0) (fun x hx => by cases hx) (rgOk_cons (⟨h0.1, h0.2⟩) (rgOk_cons (⟨Int.le_refl _, Int.le_refl _⟩) (rgOk_cons (⟨h2.1, h2.2⟩) (rgOk_cons (⟨Int.le_refl _, (by decide : (30 : Int) ≤ 299)⟩) (rgOk_nil))))) (fun d hd => by simp [pM30_dead] at hd) (xs := [.int .i64 a0, .int .i64 30, .int .i64 a2]) (by rfl) w

end Go.Proofs.YtlmpmmcefdhgmaaGreat.hubFloods

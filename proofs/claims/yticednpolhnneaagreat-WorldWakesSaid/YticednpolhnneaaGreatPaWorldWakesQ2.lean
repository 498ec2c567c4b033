/-
  WorldWakes: runs, PL, PH.
-/
import Derived.Test.YticednpolhnneaaGreatSsg
import Derived.Test.YticednpolhnneaaGreatPlsOk
import Derived.Test.YticednpolhnneaaGreatSgJS
import Derived.Test.YticednpolhnneaaGreatPlWWorldWakes
set_option linter.unusedVariables false
set_option linter.unusedSimpArgs false
namespace Go.Proofs.YticednpolhnneaaGreat.worldWakes
open Go

def pPL_dead : List (List (SB × Bool)) := []
noncomputable def pPL_tree : R := fillT endT []
set_option maxRecDepth 1000000 in
theorem pPL_run  : evCall Tryz.prog plans worldWakes.sumsG 100000 10 [.int .i64 (.var 0), .osl 300 1 303] (s0 [] [[(.negSucc 9223372036854775807), (.ofNat 0)]] [((.negSucc 9223372036854775807), (.ofNat 0)), ((.ofNat 0), (.ofNat 9223372036854775807))]) finK = pPL_tree := by kernel_rfl
set_option maxRecDepth 1000000 in
theorem pPL_ok : okTree pPL_tree true [] pPL_dead = true := by kernel_rfl
theorem pPL_any (w : World) (a0 : Int) (h0 : (-9223372036854775808) ≤ a0 ∧ a0 ≤ 0) (p1 : Option Addr) (n1 c1 : Nat) (h1 : 0 ≤ (n1 : Int) ∧ (n1 : Int) ≤ 9223372036854775807) : Calls Tryz.prog 10 #[.int .i64 a0, .slice p1 n1 c1] w fun e w' => e = .returned (.bool true) ∧ Kp [] w w' := by
  exact run_boolF (ds := pPL_dead) follows_mixed plans_ok worldWakes.sumsG_ok (pPL_run ) pPL_ok (rhoG [a0, (n1 : Int)] [] [(p1, c1)]) (fun x hx => by cases hx) (rgOk_cons ⟨h0.1, h0.2⟩ (rgOk_cons ⟨h1.1, h1.2⟩ (rgOk_nil))) (fun d hd => by simp [pPL_dead] at hd) (xs := [.int .i64 a0, .slice p1 n1 c1]) (concL_mk rfl (concL_mk (conc_osl (k := 0) (by decide) rfl rfl) (rfl))) w (foOk_rhoG (fun x hx => by cases hx))

def pPH_dead : List (List (SB × Bool)) := []
noncomputable def pPH_tree : R := fillT endT []
set_option maxRecDepth 1000000 in
theorem pPH_run  : evCall Tryz.prog plans worldWakes.sumsG 100000 10 [.int .i64 (.var 0), .osl 300 1 303] (s0 [] [[(.ofNat 65536), (.ofNat 0)]] [((.ofNat 65536), (.ofNat 9223372036854775807)), ((.ofNat 0), (.ofNat 9223372036854775807))]) finK = pPH_tree := by kernel_rfl
set_option maxRecDepth 1000000 in
theorem pPH_ok : okTree pPH_tree true [] pPH_dead = true := by kernel_rfl
theorem pPH_any (w : World) (a0 : Int) (h0 : 65536 ≤ a0 ∧ a0 ≤ 9223372036854775807) (p1 : Option Addr) (n1 c1 : Nat) (h1 : 0 ≤ (n1 : Int) ∧ (n1 : Int) ≤ 9223372036854775807) : Calls Tryz.prog 10 #[.int .i64 a0, .slice p1 n1 c1] w fun e w' => e = .returned (.bool true) ∧ Kp [] w w' := by
  exact run_boolF (ds := pPH_dead) follows_mixed plans_ok worldWakes.sumsG_ok (pPH_run ) pPH_ok (rhoG [a0, (n1 : Int)] [] [(p1, c1)]) (fun x hx => by cases hx) (rgOk_cons ⟨h0.1, h0.2⟩ (rgOk_cons ⟨h1.1, h1.2⟩ (rgOk_nil))) (fun d hd => by simp [pPH_dead] at hd) (xs := [.int .i64 a0, .slice p1 n1 c1]) (concL_mk rfl (concL_mk (conc_osl (k := 0) (by decide) rfl rfl) (rfl))) w (foOk_rhoG (fun x hx => by cases hx))


def pZ_dead : List (List (SB × Bool)) := []
noncomputable def pZ_tree : R := fillT endT []
set_option maxRecDepth 1000000 in
theorem pZ_run  : evCall Tryz.prog plans worldWakes.sumsG 100000 10 [.int .i64 (.var 0), .osl 300 1 303] (s0 [] [[(.ofNat 1), (.ofNat 0)]] [((.ofNat 1), (.ofNat 65535)), ((.ofNat 0), (.ofNat 0))]) finK = pZ_tree := by kernel_rfl
set_option maxRecDepth 1000000 in
theorem pZ_ok : okTree pZ_tree true [] pZ_dead = true := by kernel_rfl
theorem pZ_any (w : World) (a0 : Int) (h0 : 1 ≤ a0 ∧ a0 ≤ 65535) (p1 : Option Addr) (n1 c1 : Nat) (h1 : 0 ≤ (n1 : Int) ∧ (n1 : Int) ≤ 0) : Calls Tryz.prog 10 #[.int .i64 a0, .slice p1 n1 c1] w fun e w' => e = .returned (.bool true) ∧ Kp [] w w' := by
  exact run_boolF (ds := pZ_dead) follows_mixed plans_ok worldWakes.sumsG_ok (pZ_run ) pZ_ok (rhoG [a0, (n1 : Int)] [] [(p1, c1)]) (fun x hx => by cases hx) (rgOk_cons ⟨h0.1, h0.2⟩ (rgOk_cons ⟨h1.1, h1.2⟩ (rgOk_nil))) (fun d hd => by simp [pZ_dead] at hd) (xs := [.int .i64 a0, .slice p1 n1 c1]) (concL_mk rfl (concL_mk (conc_osl (k := 0) (by decide) rfl rfl) (rfl))) w (foOk_rhoG (fun x hx => by cases hx))

def pL_dead : List (List (SB × Bool)) := []
noncomputable def pL_tree : R := fillT endT []
set_option maxRecDepth 1000000 in
theorem pL_run  : evCall Tryz.prog plans worldWakes.sumsG 100000 10 [.int .i64 (.var 0), .osl 300 1 303] (s0 [] [[(.ofNat 1), (.ofNat 1001)]] [((.ofNat 1), (.ofNat 65535)), ((.ofNat 1001), (.ofNat 9223372036854775807))]) finK = pL_tree := by kernel_rfl
set_option maxRecDepth 1000000 in
theorem pL_ok : okTree pL_tree true [] pL_dead = true := by kernel_rfl
theorem pL_any (w : World) (a0 : Int) (h0 : 1 ≤ a0 ∧ a0 ≤ 65535) (p1 : Option Addr) (n1 c1 : Nat) (h1 : 1001 ≤ (n1 : Int) ∧ (n1 : Int) ≤ 9223372036854775807) : Calls Tryz.prog 10 #[.int .i64 a0, .slice p1 n1 c1] w fun e w' => e = .returned (.bool true) ∧ Kp [] w w' := by
  exact run_boolF (ds := pL_dead) follows_mixed plans_ok worldWakes.sumsG_ok (pL_run ) pL_ok (rhoG [a0, (n1 : Int)] [] [(p1, c1)]) (fun x hx => by cases hx) (rgOk_cons ⟨h0.1, h0.2⟩ (rgOk_cons ⟨h1.1, h1.2⟩ (rgOk_nil))) (fun d hd => by simp [pL_dead] at hd) (xs := [.int .i64 a0, .slice p1 n1 c1]) (concL_mk rfl (concL_mk (conc_osl (k := 0) (by decide) rfl rfl) (rfl))) w (foOk_rhoG (fun x hx => by cases hx))


def pS1_dead : List (List (SB × Bool)) := []
noncomputable def pS1_tree : R := fillT endT []
set_option maxRecDepth 1000000 in
theorem pS1_run  : evCall Tryz.prog plansW worldWakes.sumsG 100000 10 [.int .i64 (.var 0), .fsl 32 zeroS zeroS (natS 1)] (s0 [] [[(.ofNat 1), (.ofNat 0), (.ofNat 0), (.ofNat 0), (.ofNat 0), (.ofNat 0), (.ofNat 0), (.ofNat 0), (.ofNat 0), (.ofNat 0), (.ofNat 0), (.ofNat 0), (.ofNat 0), (.ofNat 0), (.ofNat 0), (.ofNat 0), (.ofNat 0), (.ofNat 0), (.ofNat 0), (.ofNat 0), (.ofNat 0), (.ofNat 0), (.ofNat 0), (.ofNat 0), (.ofNat 0), (.ofNat 0), (.ofNat 0), (.ofNat 0), (.ofNat 0), (.ofNat 0), (.ofNat 0), (.ofNat 0), (.ofNat 1)]] [((.ofNat 1), (.ofNat 65535)), ((.ofNat 0), (.ofNat 0)), ((.ofNat 0), (.ofNat 0)), ((.ofNat 0), (.ofNat 0)), ((.ofNat 0), (.ofNat 0)), ((.ofNat 0), (.ofNat 0)), ((.ofNat 0), (.ofNat 0)), ((.ofNat 0), (.ofNat 0)), ((.ofNat 0), (.ofNat 0)), ((.ofNat 0), (.ofNat 0)), ((.ofNat 0), (.ofNat 0)), ((.ofNat 0), (.ofNat 0)), ((.ofNat 0), (.ofNat 0)), ((.ofNat 0), (.ofNat 0)), ((.ofNat 0), (.ofNat 0)), ((.ofNat 0), (.ofNat 0)), ((.ofNat 0), (.ofNat 0)), ((.ofNat 0), (.ofNat 0)), ((.ofNat 0), (.ofNat 0)), ((.ofNat 0), (.ofNat 0)), ((.ofNat 0), (.ofNat 0)), ((.ofNat 0), (.ofNat 0)), ((.ofNat 0), (.ofNat 0)), ((.ofNat 0), (.ofNat 0)), ((.ofNat 0), (.ofNat 0)), ((.ofNat 0), (.ofNat 0)), ((.ofNat 0), (.ofNat 0)), ((.ofNat 0), (.ofNat 0)), ((.ofNat 0), (.ofNat 0)), ((.ofNat 0), (.ofNat 0)), ((.ofNat 0), (.ofNat 0)), ((.ofNat 0), (.ofNat 0)), ((.ofNat 1), (.ofNat 1))]) finK = pS1_tree := by kernel_rfl
set_option maxRecDepth 1000000 in
theorem pS1_ok : okTree pS1_tree true [] pS1_dead = true := by kernel_rfl
theorem pS1_any (w : World) (a0 : Int) (h0 : 1 ≤ a0 ∧ a0 ≤ 65535) (r1 : RowD) (k1 : r1.Ok w) (h1 : 1 ≤ (r1.n : Int) ∧ (r1.n : Int) ≤ 1) : Calls Tryz.prog 10 #[.int .i64 a0, r1.v] w fun e w' => e = .returned (.bool true) ∧ Kp [] w w' := by
  exact run_boolF (ds := pS1_dead) follows_mixed plansW_ok worldWakes.sumsG_ok (pS1_run ) pS1_ok (rhoG [a0, 0] [r1] [(none, 0)]) (fun x hx => by cases hx) (rgOk_cons ⟨h0.1, h0.2⟩ (rgOk_cons ⟨Int.le_refl _, Int.le_refl _⟩ (rgOk_cons ⟨Int.le_refl _, Int.le_refl _⟩ (rgOk_cons ⟨Int.le_refl _, Int.le_refl _⟩ (rgOk_cons ⟨Int.le_refl _, Int.le_refl _⟩ (rgOk_cons ⟨Int.le_refl _, Int.le_refl _⟩ (rgOk_cons ⟨Int.le_refl _, Int.le_refl _⟩ (rgOk_cons ⟨Int.le_refl _, Int.le_refl _⟩ (rgOk_cons ⟨Int.le_refl _, Int.le_refl _⟩ (rgOk_cons ⟨Int.le_refl _, Int.le_refl _⟩ (rgOk_cons ⟨Int.le_refl _, Int.le_refl _⟩ (rgOk_cons ⟨Int.le_refl _, Int.le_refl _⟩ (rgOk_cons ⟨Int.le_refl _, Int.le_refl _⟩ (rgOk_cons ⟨Int.le_refl _, Int.le_refl _⟩ (rgOk_cons ⟨Int.le_refl _, Int.le_refl _⟩ (rgOk_cons ⟨Int.le_refl _, Int.le_refl _⟩ (rgOk_cons ⟨Int.le_refl _, Int.le_refl _⟩ (rgOk_cons ⟨Int.le_refl _, Int.le_refl _⟩ (rgOk_cons ⟨Int.le_refl _, Int.le_refl _⟩ (rgOk_cons ⟨Int.le_refl _, Int.le_refl _⟩ (rgOk_cons ⟨Int.le_refl _, Int.le_refl _⟩ (rgOk_cons ⟨Int.le_refl _, Int.le_refl _⟩ (rgOk_cons ⟨Int.le_refl _, Int.le_refl _⟩ (rgOk_cons ⟨Int.le_refl _, Int.le_refl _⟩ (rgOk_cons ⟨Int.le_refl _, Int.le_refl _⟩ (rgOk_cons ⟨Int.le_refl _, Int.le_refl _⟩ (rgOk_cons ⟨Int.le_refl _, Int.le_refl _⟩ (rgOk_cons ⟨Int.le_refl _, Int.le_refl _⟩ (rgOk_cons ⟨Int.le_refl _, Int.le_refl _⟩ (rgOk_cons ⟨Int.le_refl _, Int.le_refl _⟩ (rgOk_cons ⟨Int.le_refl _, Int.le_refl _⟩ (rgOk_cons ⟨Int.le_refl _, Int.le_refl _⟩ (rgOk_cons ⟨h1.1, h1.2⟩ (rgOk_nil)))))))))))))))))))))))))))))))))) (fun d hd => by simp [pS1_dead] at hd) (xs := [.int .i64 a0, r1.v]) (concL_mk rfl (concL_mk (conc_rhoL (by decide) (by decide) rfl k1.le (by omega)) (rfl))) w (foOk_rhoG (List.forall_mem_cons.2 ⟨k1, (fun x hx => by cases hx)⟩))

def pS2_dead : List (List (SB × Bool)) := []
noncomputable def pS2_tree : R := fillT endT []
set_option maxRecDepth 1000000 in
theorem pS2_run  : evCall Tryz.prog plansW worldWakes.sumsG 100000 10 [.int .i64 (.var 0), .fsl 32 zeroS zeroS (natS 2)] (s0 [] [[(.ofNat 1), (.ofNat 0), (.ofNat 0), (.ofNat 0), (.ofNat 0), (.ofNat 0), (.ofNat 0), (.ofNat 0), (.ofNat 0), (.ofNat 0), (.ofNat 0), (.ofNat 0), (.ofNat 0), (.ofNat 0), (.ofNat 0), (.ofNat 0), (.ofNat 0), (.ofNat 0), (.ofNat 0), (.ofNat 0), (.ofNat 0), (.ofNat 0), (.ofNat 0), (.ofNat 0), (.ofNat 0), (.ofNat 0), (.ofNat 0), (.ofNat 0), (.ofNat 0), (.ofNat 0), (.ofNat 0), (.ofNat 0), (.ofNat 2)]] [((.ofNat 1), (.ofNat 65535)), ((.ofNat 0), (.ofNat 0)), ((.ofNat 0), (.ofNat 0)), ((.ofNat 0), (.ofNat 0)), ((.ofNat 0), (.ofNat 0)), ((.ofNat 0), (.ofNat 0)), ((.ofNat 0), (.ofNat 0)), ((.ofNat 0), (.ofNat 0)), ((.ofNat 0), (.ofNat 0)), ((.ofNat 0), (.ofNat 0)), ((.ofNat 0), (.ofNat 0)), ((.ofNat 0), (.ofNat 0)), ((.ofNat 0), (.ofNat 0)), ((.ofNat 0), (.ofNat 0)), ((.ofNat 0), (.ofNat 0)), ((.ofNat 0), (.ofNat 0)), ((.ofNat 0), (.ofNat 0)), ((.ofNat 0), (.ofNat 0)), ((.ofNat 0), (.ofNat 0)), ((.ofNat 0), (.ofNat 0)), ((.ofNat 0), (.ofNat 0)), ((.ofNat 0), (.ofNat 0)), ((.ofNat 0), (.ofNat 0)), ((.ofNat 0), (.ofNat 0)), ((.ofNat 0), (.ofNat 0)), ((.ofNat 0), (.ofNat 0)), ((.ofNat 0), (.ofNat 0)), ((.ofNat 0), (.ofNat 0)), ((.ofNat 0), (.ofNat 0)), ((.ofNat 0), (.ofNat 0)), ((.ofNat 0), (.ofNat 0)), ((.ofNat 0), (.ofNat 0)), ((.ofNat 2), (.ofNat 2))]) finK = pS2_tree := by kernel_rfl
set_option maxRecDepth 1000000 in
theorem pS2_ok : okTree pS2_tree true [] pS2_dead = true := by kernel_rfl
theorem pS2_any (w : World) (a0 : Int) (h0 : 1 ≤ a0 ∧ a0 ≤ 65535) (r1 : RowD) (k1 : r1.Ok w) (h1 : 2 ≤ (r1.n : Int) ∧ (r1.n : Int) ≤ 2) : Calls Tryz.prog 10 #[.int .i64 a0, r1.v] w fun e w' => e = .returned (.bool true) ∧ Kp [] w w' := by
  exact run_boolF (ds := pS2_dead) follows_mixed plansW_ok worldWakes.sumsG_ok (pS2_run ) pS2_ok (rhoG [a0, 0] [r1] [(none, 0)]) (fun x hx => by cases hx) (rgOk_cons ⟨h0.1, h0.2⟩ (rgOk_cons ⟨Int.le_refl _, Int.le_refl _⟩ (rgOk_cons ⟨Int.le_refl _, Int.le_refl _⟩ (rgOk_cons ⟨Int.le_refl _, Int.le_refl _⟩ (rgOk_cons ⟨Int.le_refl _, Int.le_refl _⟩ (rgOk_cons ⟨Int.le_refl _, Int.le_refl _⟩ (rgOk_cons ⟨Int.le_refl _, Int.le_refl _⟩ (rgOk_cons ⟨Int.le_refl _, Int.le_refl _⟩ (rgOk_cons ⟨Int.le_refl _, Int.le_refl _⟩ (rgOk_cons ⟨Int.le_refl _, Int.le_refl _⟩ (rgOk_cons ⟨Int.le_refl _, Int.le_refl _⟩ (rgOk_cons ⟨Int.le_refl _, Int.le_refl _⟩ (rgOk_cons ⟨Int.le_refl _, Int.le_refl _⟩ (rgOk_cons ⟨Int.le_refl _, Int.le_refl _⟩ (rgOk_cons ⟨Int.le_refl _, Int.le_refl _⟩ (rgOk_cons ⟨Int.le_refl _, Int.le_refl _⟩ (rgOk_cons ⟨Int.le_refl _, Int.le_refl _⟩ (rgOk_cons ⟨Int.le_refl _, Int.le_refl _⟩ (rgOk_cons ⟨Int.le_refl _, Int.le_refl _⟩ (rgOk_cons ⟨Int.le_refl _, Int.le_refl _⟩ (rgOk_cons ⟨Int.le_refl _, Int.le_refl _⟩ (rgOk_cons ⟨Int.le_refl _, Int.le_refl _⟩ (rgOk_cons ⟨Int.le_refl _, Int.le_refl _⟩ (rgOk_cons ⟨Int.le_refl _, Int.le_refl _⟩ (rgOk_cons ⟨Int.le_refl _, Int.le_refl _⟩ (rgOk_cons ⟨Int.le_refl _, Int.le_refl _⟩ (rgOk_cons ⟨Int.le_refl _, Int.le_refl _⟩ (rgOk_cons ⟨Int.le_refl _, Int.le_refl _⟩ (rgOk_cons ⟨Int.le_refl _, Int.le_refl _⟩ (rgOk_cons ⟨Int.le_refl _, Int.le_refl _⟩ (rgOk_cons ⟨Int.le_refl _, Int.le_refl _⟩ (rgOk_cons ⟨Int.le_refl _, Int.le_refl _⟩ (rgOk_cons ⟨h1.1, h1.2⟩ (rgOk_nil)))))))))))))))))))))))))))))))))) (fun d hd => by simp [pS2_dead] at hd) (xs := [.int .i64 a0, r1.v]) (concL_mk rfl (concL_mk (conc_rhoL (by decide) (by decide) rfl k1.le (by omega)) (rfl))) w (foOk_rhoG (List.forall_mem_cons.2 ⟨k1, (fun x hx => by cases hx)⟩))

end Go.Proofs.YticednpolhnneaaGreat.worldWakes

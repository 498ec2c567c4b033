/-
  TopLeases: runs, LL, LH, LO.
-/
import Derived.Test.YtnhpfkjblnclnaaGreatCg
import Derived.Test.YtnhpfkjblnclnaaGreatPlsOk
import Derived.Test.YtnhpfkjblnclnaaGreatSgPS
set_option linter.unusedVariables false
set_option linter.unusedSimpArgs false
namespace Go.Proofs.YtnhpfkjblnclnaaGreat.topLeases
open Go

def pLL_dead : List (List (SB × Bool)) := []
noncomputable def pLL_tree : R := fillT endT []
set_option maxRecDepth 1000000 in
theorem pLL_run  : evCall Tryz.prog plans topLeases.p.sumsG 100000 9 [.int .i64 (.var 0), .int .i64 (.var 1), .osl 300 2 303] (s0 [] [[(.negSucc 9223372036854775807), (.negSucc 9223372036854775807), (.ofNat 0)]] [((.negSucc 9223372036854775807), (.ofNat 2)), ((.negSucc 9223372036854775807), (.ofNat 9223372036854775807)), ((.ofNat 0), (.ofNat 1000))]) finK = pLL_tree := by kernel_rfl
set_option maxRecDepth 1000000 in
theorem pLL_ok : okTree pLL_tree true [] pLL_dead = true := by kernel_rfl
theorem pLL_any (w : World) (a0 : Int) (h0 : (-9223372036854775808) ≤ a0 ∧ a0 ≤ 2) (a1 : Int) (h1 : (-9223372036854775808) ≤ a1 ∧ a1 ≤ 9223372036854775807) (p2 : Option Addr) (n2 c2 : Nat) (h2 : 0 ≤ (n2 : Int) ∧ (n2 : Int) ≤ 1000) : Calls Tryz.prog 9 #[.int .i64 a0, .int .i64 a1, .slice p2 n2 c2] w fun e w' => e = .returned (.bool true) ∧ Kp [] w w' := by
  exact run_boolF (ds := pLL_dead) follows_mixed plans_ok topLeases.p.sumsG_ok (pLL_run ) pLL_ok (rhoG [a0, a1, (n2 : Int)] [] [(p2, c2)]) (fun x hx => by cases hx) (rgOk_cons ⟨h0.1, h0.2⟩ (rgOk_cons ⟨h1.1, h1.2⟩ (rgOk_cons ⟨h2.1, h2.2⟩ (rgOk_nil)))) (fun d hd => by simp [pLL_dead] at hd) (xs := [.int .i64 a0, .int .i64 a1, .slice p2 n2 c2]) (concL_mk rfl (concL_mk rfl (concL_mk (conc_osl (k := 0) (by decide) rfl rfl) (rfl)))) w (foOk_rhoG (fun x hx => by cases hx))

def pLH_dead : List (List (SB × Bool)) := []
noncomputable def pLH_tree : R := fillT endT []
set_option maxRecDepth 1000000 in
theorem pLH_run  : evCall Tryz.prog plans topLeases.p.sumsG 100000 9 [.int .i64 (.var 0), .int .i64 (.var 1), .osl 300 2 303] (s0 [] [[(.ofNat 251), (.negSucc 9223372036854775807), (.ofNat 0)]] [((.ofNat 251), (.ofNat 9223372036854775807)), ((.negSucc 9223372036854775807), (.ofNat 9223372036854775807)), ((.ofNat 0), (.ofNat 1000))]) finK = pLH_tree := by kernel_rfl
set_option maxRecDepth 1000000 in
theorem pLH_ok : okTree pLH_tree true [] pLH_dead = true := by kernel_rfl
theorem pLH_any (w : World) (a0 : Int) (h0 : 251 ≤ a0 ∧ a0 ≤ 9223372036854775807) (a1 : Int) (h1 : (-9223372036854775808) ≤ a1 ∧ a1 ≤ 9223372036854775807) (p2 : Option Addr) (n2 c2 : Nat) (h2 : 0 ≤ (n2 : Int) ∧ (n2 : Int) ≤ 1000) : Calls Tryz.prog 9 #[.int .i64 a0, .int .i64 a1, .slice p2 n2 c2] w fun e w' => e = .returned (.bool true) ∧ Kp [] w w' := by
  exact run_boolF (ds := pLH_dead) follows_mixed plans_ok topLeases.p.sumsG_ok (pLH_run ) pLH_ok (rhoG [a0, a1, (n2 : Int)] [] [(p2, c2)]) (fun x hx => by cases hx) (rgOk_cons ⟨h0.1, h0.2⟩ (rgOk_cons ⟨h1.1, h1.2⟩ (rgOk_cons ⟨h2.1, h2.2⟩ (rgOk_nil)))) (fun d hd => by simp [pLH_dead] at hd) (xs := [.int .i64 a0, .int .i64 a1, .slice p2 n2 c2]) (concL_mk rfl (concL_mk rfl (concL_mk (conc_osl (k := 0) (by decide) rfl rfl) (rfl)))) w (foOk_rhoG (fun x hx => by cases hx))

def pLO_dead : List (List (SB × Bool)) := []
noncomputable def pLO_tree : R := fillT (.fork (.cmp .lss (.var 0) (.lit (.ofNat 3))) endT (.fork (.cmp .lss (.lit (.ofNat 250)) (.var 0)) endT endT)) []
set_option maxRecDepth 1000000 in
theorem pLO_run  : evCall Tryz.prog plans topLeases.p.sumsG 100000 9 [.int .i64 (.var 0), .int .i64 (.var 1), .osl 300 2 303] (s0 [] [[(.negSucc 9223372036854775807), (.negSucc 9223372036854775807), (.ofNat 1001)], [(.ofNat 3), (.negSucc 9223372036854775807), (.ofNat 1001)], [(.ofNat 251), (.negSucc 9223372036854775807), (.ofNat 1001)]] [((.negSucc 9223372036854775807), (.ofNat 9223372036854775807)), ((.negSucc 9223372036854775807), (.ofNat 9223372036854775807)), ((.ofNat 1001), (.ofNat 9223372036854775807))]) finK = pLO_tree := by kernel_rfl
set_option maxRecDepth 1000000 in
theorem pLO_ok : okTree pLO_tree true [] pLO_dead = true := by kernel_rfl
theorem pLO_any (w : World) (a0 : Int) (h0 : (-9223372036854775808) ≤ a0 ∧ a0 ≤ 9223372036854775807) (a1 : Int) (h1 : (-9223372036854775808) ≤ a1 ∧ a1 ≤ 9223372036854775807) (p2 : Option Addr) (n2 c2 : Nat) (h2 : 1001 ≤ (n2 : Int) ∧ (n2 : Int) ≤ 9223372036854775807) : Calls Tryz.prog 9 #[.int .i64 a0, .int .i64 a1, .slice p2 n2 c2] w fun e w' => e = .returned (.bool true) ∧ Kp [] w w' := by
  exact run_boolF (ds := pLO_dead) follows_mixed plans_ok topLeases.p.sumsG_ok (pLO_run ) pLO_ok (rhoG [a0, a1, (n2 : Int)] [] [(p2, c2)]) (fun x hx => by cases hx) (rgOk_cons ⟨h0.1, h0.2⟩ (rgOk_cons ⟨h1.1, h1.2⟩ (rgOk_cons ⟨h2.1, h2.2⟩ (rgOk_nil)))) (fun d hd => by simp [pLO_dead] at hd) (xs := [.int .i64 a0, .int .i64 a1, .slice p2 n2 c2]) (concL_mk rfl (concL_mk rfl (concL_mk (conc_osl (k := 0) (by decide) rfl rfl) (rfl)))) w (foOk_rhoG (fun x hx => by cases hx))

end Go.Proofs.YtnhpfkjblnclnaaGreat.topLeases

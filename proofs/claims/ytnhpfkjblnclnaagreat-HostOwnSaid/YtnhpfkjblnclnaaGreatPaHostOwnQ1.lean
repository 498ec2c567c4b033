/-
  HostOwn: runs, NH, Z0, Z13, Z19.
-/
import Derived.Test.YtnhpfkjblnclnaaGreatCg
import Derived.Test.YtnhpfkjblnclnaaGreatPlsOk
import Derived.Test.YtnhpfkjblnclnaaGreatSgMS
set_option linter.unusedVariables false
set_option linter.unusedSimpArgs false
namespace Go.Proofs.YtnhpfkjblnclnaaGreat.hostOwn
open Go

def pNH_dead : List (List (SB × Bool)) := []
noncomputable def pNH_tree : R := fillT endT []
set_option maxRecDepth 1000000 in
theorem pNH_run  : evCall Tryz.prog plans hostOwn.m.sumsG 100000 3 [.osl 300 0 303, .int .i64 (.var 1), .int .i64 (.var 2)] (s0 [] [[(.ofNat 0), (.ofNat 1), (.ofNat 31)]] [((.ofNat 0), (.ofNat 2000)), ((.ofNat 1), (.ofNat 65535)), ((.ofNat 31), (.ofNat 9223372036854775807))]) finK = pNH_tree := by kernel_rfl
set_option maxRecDepth 1000000 in
theorem pNH_ok : okTree pNH_tree true [] pNH_dead = true := by kernel_rfl
theorem pNH_any (w : World) (p0 : Option Addr) (n0 c0 : Nat) (h0 : 0 ≤ (n0 : Int) ∧ (n0 : Int) ≤ 2000) (a1 : Int) (h1 : 1 ≤ a1 ∧ a1 ≤ 65535) (a2 : Int) (h2 : 31 ≤ a2 ∧ a2 ≤ 9223372036854775807) : Calls Tryz.prog 3 #[.slice p0 n0 c0, .int .i64 a1, .int .i64 a2] w fun e w' => e = .returned (.bool true) ∧ Kp [] w w' := by
  exact run_boolF (ds := pNH_dead) follows_mixed plans_ok hostOwn.m.sumsG_ok (pNH_run ) pNH_ok (rhoG [(n0 : Int), a1, a2] [] [(p0, c0)]) (fun x hx => by cases hx) (rgOk_cons ⟨h0.1, h0.2⟩ (rgOk_cons ⟨h1.1, h1.2⟩ (rgOk_cons ⟨h2.1, h2.2⟩ (rgOk_nil)))) (fun d hd => by simp [pNH_dead] at hd) (xs := [.slice p0 n0 c0, .int .i64 a1, .int .i64 a2]) (concL_mk (conc_osl (k := 0) (by decide) rfl rfl) (concL_mk rfl (concL_mk rfl (rfl)))) w (foOk_rhoG (fun x hx => by cases hx))

set_option maxRecDepth 1000000 in
theorem pZ0_ok  : okT2 2 (.ofNat 0) 13 (isB true) (evCall Tryz.prog plansJ hostOwn.m.sumsG 100000 3 [.osl 300 0 303, .int .i64 (.var 1), .int .i64 (.var 2)] (s0 [] [[(.ofNat 0), (.ofNat 1), (.ofNat 0)], [(.ofNat 0), (.ofNat 1), (.ofNat 1)], [(.ofNat 0), (.ofNat 1), (.ofNat 2)], [(.ofNat 0), (.ofNat 1), (.ofNat 3)], [(.ofNat 0), (.ofNat 1), (.ofNat 4)], [(.ofNat 0), (.ofNat 1), (.ofNat 5)], [(.ofNat 0), (.ofNat 1), (.ofNat 6)], [(.ofNat 0), (.ofNat 1), (.ofNat 7)], [(.ofNat 0), (.ofNat 1), (.ofNat 8)], [(.ofNat 0), (.ofNat 1), (.ofNat 9)], [(.ofNat 0), (.ofNat 1), (.ofNat 10)], [(.ofNat 0), (.ofNat 1), (.ofNat 11)], [(.ofNat 0), (.ofNat 1), (.ofNat 12)]] [((.ofNat 0), (.ofNat 0)), ((.ofNat 1), (.ofNat 65535)), ((.ofNat 0), (.ofNat 12))]) finK) [] = true := by kernel_rfl
theorem pZ0_any (w : World) (p0 : Option Addr) (n0 c0 : Nat) (h0 : 0 ≤ (n0 : Int) ∧ (n0 : Int) ≤ 0) (a1 : Int) (h1 : 1 ≤ a1 ∧ a1 ≤ 65535) (a2 : Int) (h2 : 0 ≤ a2 ∧ a2 ≤ 12) : Calls Tryz.prog 3 #[.slice p0 n0 c0, .int .i64 a1, .int .i64 a2] w fun e w' => e = .returned (.bool true) ∧ Kp [] w w' := by
  exact run_bool2F follows_mixed plansJ_ok hostOwn.m.sumsG_ok (pZ0_ok ) (rhoG [(n0 : Int), a1, a2] [] [(p0, c0)]) (rgOk_cons ⟨h0.1, h0.2⟩ (rgOk_cons ⟨h1.1, h1.2⟩ (rgOk_cons ⟨h2.1, h2.2⟩ (rgOk_nil)))) (.inr ⟨by show 0 ≤ a2; omega, by show a2 < 0 + ((13 : Nat) : Int); omega⟩) (xs := [.slice p0 n0 c0, .int .i64 a1, .int .i64 a2]) (concL_mk (conc_osl (k := 0) (by decide) rfl rfl) (concL_mk rfl (concL_mk rfl (rfl)))) w (foOk_rhoG (fun x hx => by cases hx))

set_option maxRecDepth 1000000 in
theorem pZ13_ok  : okT2 2 (.ofNat 13) 6 (isB true) (evCall Tryz.prog plansJ hostOwn.m.sumsG 100000 3 [.osl 300 0 303, .int .i64 (.var 1), .int .i64 (.var 2)] (s0 [] [[(.ofNat 0), (.ofNat 1), (.ofNat 13)], [(.ofNat 0), (.ofNat 1), (.ofNat 14)], [(.ofNat 0), (.ofNat 1), (.ofNat 15)], [(.ofNat 0), (.ofNat 1), (.ofNat 16)], [(.ofNat 0), (.ofNat 1), (.ofNat 17)], [(.ofNat 0), (.ofNat 1), (.ofNat 18)]] [((.ofNat 0), (.ofNat 0)), ((.ofNat 1), (.ofNat 65535)), ((.ofNat 13), (.ofNat 18))]) finK) [] = true := by kernel_rfl
theorem pZ13_any (w : World) (p0 : Option Addr) (n0 c0 : Nat) (h0 : 0 ≤ (n0 : Int) ∧ (n0 : Int) ≤ 0) (a1 : Int) (h1 : 1 ≤ a1 ∧ a1 ≤ 65535) (a2 : Int) (h2 : 13 ≤ a2 ∧ a2 ≤ 18) : Calls Tryz.prog 3 #[.slice p0 n0 c0, .int .i64 a1, .int .i64 a2] w fun e w' => e = .returned (.bool true) ∧ Kp [] w w' := by
  exact run_bool2F follows_mixed plansJ_ok hostOwn.m.sumsG_ok (pZ13_ok ) (rhoG [(n0 : Int), a1, a2] [] [(p0, c0)]) (rgOk_cons ⟨h0.1, h0.2⟩ (rgOk_cons ⟨h1.1, h1.2⟩ (rgOk_cons ⟨h2.1, h2.2⟩ (rgOk_nil)))) (.inr ⟨by show 13 ≤ a2; omega, by show a2 < 13 + ((6 : Nat) : Int); omega⟩) (xs := [.slice p0 n0 c0, .int .i64 a1, .int .i64 a2]) (concL_mk (conc_osl (k := 0) (by decide) rfl rfl) (concL_mk rfl (concL_mk rfl (rfl)))) w (foOk_rhoG (fun x hx => by cases hx))

set_option maxRecDepth 1000000 in
theorem pZ19_ok  : okT2 2 (.ofNat 19) 6 (isB true) (evCall Tryz.prog plansJ hostOwn.m.sumsG 100000 3 [.osl 300 0 303, .int .i64 (.var 1), .int .i64 (.var 2)] (s0 [] [[(.ofNat 0), (.ofNat 1), (.ofNat 19)], [(.ofNat 0), (.ofNat 1), (.ofNat 20)], [(.ofNat 0), (.ofNat 1), (.ofNat 21)], [(.ofNat 0), (.ofNat 1), (.ofNat 22)], [(.ofNat 0), (.ofNat 1), (.ofNat 23)], [(.ofNat 0), (.ofNat 1), (.ofNat 24)]] [((.ofNat 0), (.ofNat 0)), ((.ofNat 1), (.ofNat 65535)), ((.ofNat 19), (.ofNat 24))]) finK) [] = true := by kernel_rfl
theorem pZ19_any (w : World) (p0 : Option Addr) (n0 c0 : Nat) (h0 : 0 ≤ (n0 : Int) ∧ (n0 : Int) ≤ 0) (a1 : Int) (h1 : 1 ≤ a1 ∧ a1 ≤ 65535) (a2 : Int) (h2 : 19 ≤ a2 ∧ a2 ≤ 24) : Calls Tryz.prog 3 #[.slice p0 n0 c0, .int .i64 a1, .int .i64 a2] w fun e w' => e = .returned (.bool true) ∧ Kp [] w w' := by
  exact run_bool2F follows_mixed plansJ_ok hostOwn.m.sumsG_ok (pZ19_ok ) (rhoG [(n0 : Int), a1, a2] [] [(p0, c0)]) (rgOk_cons ⟨h0.1, h0.2⟩ (rgOk_cons ⟨h1.1, h1.2⟩ (rgOk_cons ⟨h2.1, h2.2⟩ (rgOk_nil)))) (.inr ⟨by show 19 ≤ a2; omega, by show a2 < 19 + ((6 : Nat) : Int); omega⟩) (xs := [.slice p0 n0 c0, .int .i64 a1, .int .i64 a2]) (concL_mk (conc_osl (k := 0) (by decide) rfl rfl) (concL_mk rfl (concL_mk rfl (rfl)))) w (foOk_rhoG (fun x hx => by cases hx))

end Go.Proofs.YtnhpfkjblnclnaaGreat.hostOwn

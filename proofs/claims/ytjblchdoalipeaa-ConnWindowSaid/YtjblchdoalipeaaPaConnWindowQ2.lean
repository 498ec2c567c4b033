/-
  ConnWindow: runs, TH, Z0.
-/
import Derived.Test.YtjblchdoalipeaaCg
import Derived.Test.YtjblchdoalipeaaPlsOk
import Derived.Test.YtjblchdoalipeaaK17
import Derived.Test.YtjblchdoalipeaaAccP
set_option linter.unusedVariables false
set_option linter.unusedSimpArgs false
namespace Go.Proofs.Ytjblchdoalipeaa.connWindow
open Go

def pTH_dead : List (List (SB × Bool)) := []
noncomputable def pTH_tree : R := fillT endT []
set_option maxRecDepth 1000000 in
theorem pTH_run  : evCall Try.prog plans sumsK17 100000 3 [.osl 300 0 303, .int .i64 (.var 1), .int .i64 (.var 2)] (s0 [] [[(.ofNat 0), (.ofNat 0), (.ofNat 1501)]] [((.ofNat 0), (.ofNat 6000)), ((.ofNat 0), (.ofNat 5000)), ((.ofNat 1501), (.ofNat 9223372036854775807))]) finK = pTH_tree := by kernel_rfl
set_option maxRecDepth 1000000 in
theorem pTH_ok : okTree pTH_tree true [] pTH_dead = true := by kernel_rfl
theorem pTH_any (w : World) (p0 : Option Addr) (n0 c0 : Nat) (h0 : 0 ≤ (n0 : Int) ∧ (n0 : Int) ≤ 6000) (a1 : Int) (h1 : 0 ≤ a1 ∧ a1 ≤ 5000) (a2 : Int) (h2 : 1501 ≤ a2 ∧ a2 ≤ 9223372036854775807) : Calls Try.prog 3 #[.slice p0 n0 c0, .int .i64 a1, .int .i64 a2] w fun e w' => e = .returned (.bool true) ∧ Kp [] w w' := by
  exact run_boolF (ds := pTH_dead) follows_mixed plans_ok sumsK17_ok (pTH_run ) pTH_ok (rhoG [(n0 : Int), a1, a2] [] [(p0, c0)]) (fun x hx => by cases hx) (rgOk_cons ⟨h0.1, h0.2⟩ (rgOk_cons ⟨h1.1, h1.2⟩ (rgOk_cons ⟨h2.1, h2.2⟩ (rgOk_nil)))) (fun d hd => by simp [pTH_dead] at hd) (xs := [.slice p0 n0 c0, .int .i64 a1, .int .i64 a2]) (concL_mk (conc_osl (k := 0) (by decide) rfl rfl) (concL_mk rfl (concL_mk rfl (rfl)))) w (foOk_rhoG (fun x hx => by cases hx))

set_option maxRecDepth 1000000 in
theorem pZ0_ok  : okT2 0 (.ofNat 0) 0 (isB true) (evCall Try.prog plansZ0 sumsK17 100000 3 [.osl 300 0 303, .int .i64 (.lit (.ofNat 0)), .int .i64 (.var 2)] (s0 [] [[]] [((.ofNat 0), (.ofNat 0)), ((.ofNat 0), (.ofNat 0)), ((.ofNat 1), (.ofNat 1500)), ((.ofNat 1), (.ofNat 10)), ((.ofNat 12), (.ofNat 30)), ((.ofNat 32), (.ofNat 70)), ((.ofNat 72), (.ofNat 150)), ((.ofNat 152), (.ofNat 310)), ((.ofNat 312), (.ofNat 630)), ((.ofNat 632), (.ofNat 1230)), ((.ofNat 1232), (.ofNat 1499)), ((.ofNat 1), (.ofNat 1499))]) finK) [] = true := by kernel_rfl
theorem pZ0_any (w : World) (p0 : Option Addr) (n0 c0 : Nat) (h0 : 0 ≤ (n0 : Int) ∧ (n0 : Int) ≤ 0) (a1 : Int) (h1 : 0 ≤ a1 ∧ a1 ≤ 0) (a2 : Int) (h2 : 1 ≤ a2 ∧ a2 ≤ 1500) : Calls Try.prog 3 #[.slice p0 n0 c0, .int .i64 a1, .int .i64 a2] w fun e w' => e = .returned (.bool true) ∧ Kp [] w w' := by
  obtain rfl : a1 = 0 := by omega
  exact run_bool2F follows_mixed plansZ0_ok sumsK17_ok (pZ0_ok ) (rhoG [(n0 : Int), 0, a2, 1, 12, 32, 72, 152, 312, 632, 1232, 1] [] [(p0, c0)]) (rgOk_cons ⟨h0.1, h0.2⟩ (rgOk_cons ⟨Int.le_refl _, Int.le_refl _⟩ (rgOk_cons ⟨h2.1, h2.2⟩ (rgOk_cons (by show (1 : Int) ≤ 1 ∧ 1 ≤ (10 : Int); decide) (rgOk_cons (by show (12 : Int) ≤ 12 ∧ 12 ≤ (30 : Int); decide) (rgOk_cons (by show (32 : Int) ≤ 32 ∧ 32 ≤ (70 : Int); decide) (rgOk_cons (by show (72 : Int) ≤ 72 ∧ 72 ≤ (150 : Int); decide) (rgOk_cons (by show (152 : Int) ≤ 152 ∧ 152 ≤ (310 : Int); decide) (rgOk_cons (by show (312 : Int) ≤ 312 ∧ 312 ≤ (630 : Int); decide) (rgOk_cons (by show (632 : Int) ≤ 632 ∧ 632 ≤ (1230 : Int); decide) (rgOk_cons (by show (1232 : Int) ≤ 1232 ∧ 1232 ≤ (1499 : Int); decide) (rgOk_cons (by show (1 : Int) ≤ 1 ∧ 1 ≤ (1499 : Int); decide) (rgOk_nil))))))))))))) (.inl rfl) (xs := [.slice p0 n0 c0, .int .i64 0, .int .i64 a2]) (concL_mk (conc_osl (k := 0) (by decide) rfl rfl) (concL_mk rfl (concL_mk rfl (rfl)))) w (foOk_rhoG (fun x hx => by cases hx))

end Go.Proofs.Ytjblchdoalipeaa.connWindow

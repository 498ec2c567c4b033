/-
  ConnWindow: runs, Z1, Z2.
-/
import Derived.Test.YtjblchdoalipeaaCg
import Derived.Test.YtjblchdoalipeaaPlsOk
import Derived.Test.YtjblchdoalipeaaK17
import Derived.Test.YtjblchdoalipeaaAccP
set_option linter.unusedVariables false
set_option linter.unusedSimpArgs false
namespace Go.Proofs.Ytjblchdoalipeaa.connWindow
open Go

set_option maxRecDepth 1000000 in
theorem pZ1_ok  : okT2 0 (.ofNat 0) 0 (isB true) (evCall Try.prog plansZ1 sumsK17 100000 3 [.osl 300 0 303, .int .i64 (.var 1), .int .i64 (.var 2)] (s0 [] [[]] [((.ofNat 0), (.ofNat 0)), ((.ofNat 1), (.ofNat 1072)), ((.ofNat 1), (.ofNat 1500)), ((.ofNat 1), (.ofNat 10)), ((.ofNat 12), (.ofNat 30)), ((.ofNat 32), (.ofNat 70)), ((.ofNat 72), (.ofNat 150)), ((.ofNat 152), (.ofNat 310)), ((.ofNat 312), (.ofNat 630)), ((.ofNat 632), (.ofNat 1230)), ((.ofNat 1232), (.ofNat 1499)), ((.ofNat 1), (.ofNat 1499))]) finK) [] = true := by kernel_rfl
theorem pZ1_any (w : World) (p0 : Option Addr) (n0 c0 : Nat) (h0 : 0 ≤ (n0 : Int) ∧ (n0 : Int) ≤ 0) (a1 : Int) (h1 : 1 ≤ a1 ∧ a1 ≤ 1072) (a2 : Int) (h2 : 1 ≤ a2 ∧ a2 ≤ 1500) : Calls Try.prog 3 #[.slice p0 n0 c0, .int .i64 a1, .int .i64 a2] w fun e w' => e = .returned (.bool true) ∧ Kp [] w w' := by
  exact run_bool2F follows_mixed plansZ1_ok sumsK17_ok (pZ1_ok ) (rhoG [(n0 : Int), a1, a2, 1, 12, 32, 72, 152, 312, 632, 1232, 1] [] [(p0, c0)]) (rgOk_cons ⟨h0.1, h0.2⟩ (rgOk_cons ⟨h1.1, h1.2⟩ (rgOk_cons ⟨h2.1, h2.2⟩ (rgOk_cons (by show (1 : Int) ≤ 1 ∧ 1 ≤ (10 : Int); decide) (rgOk_cons (by show (12 : Int) ≤ 12 ∧ 12 ≤ (30 : Int); decide) (rgOk_cons (by show (32 : Int) ≤ 32 ∧ 32 ≤ (70 : Int); decide) (rgOk_cons (by show (72 : Int) ≤ 72 ∧ 72 ≤ (150 : Int); decide) (rgOk_cons (by show (152 : Int) ≤ 152 ∧ 152 ≤ (310 : Int); decide) (rgOk_cons (by show (312 : Int) ≤ 312 ∧ 312 ≤ (630 : Int); decide) (rgOk_cons (by show (632 : Int) ≤ 632 ∧ 632 ≤ (1230 : Int); decide) (rgOk_cons (by show (1232 : Int) ≤ 1232 ∧ 1232 ≤ (1499 : Int); decide) (rgOk_cons (by show (1 : Int) ≤ 1 ∧ 1 ≤ (1499 : Int); decide) (rgOk_nil))))))))))))) (.inl rfl) (xs := [.slice p0 n0 c0, .int .i64 a1, .int .i64 a2]) (concL_mk (conc_osl (k := 0) (by decide) rfl rfl) (concL_mk rfl (concL_mk rfl (rfl)))) w (foOk_rhoG (fun x hx => by cases hx))

set_option maxRecDepth 1000000 in
theorem pZ2_ok  : okT2 0 (.ofNat 0) 0 (isB true) (evCall Try.prog plansZ2 sumsK17 100000 3 [.osl 300 0 303, .int .i64 (.var 1), .int .i64 (.var 2)] (s0 [] [[]] [((.ofNat 0), (.ofNat 0)), ((.ofNat 1073), (.ofNat 5000)), ((.ofNat 1), (.ofNat 1500)), ((.ofNat 1), (.ofNat 10)), ((.ofNat 12), (.ofNat 30)), ((.ofNat 32), (.ofNat 70)), ((.ofNat 72), (.ofNat 150)), ((.ofNat 152), (.ofNat 310)), ((.ofNat 312), (.ofNat 630)), ((.ofNat 632), (.ofNat 1230)), ((.ofNat 1232), (.ofNat 1499)), ((.ofNat 1), (.ofNat 1499))]) finK) [] = true := by kernel_rfl
theorem pZ2_any (w : World) (p0 : Option Addr) (n0 c0 : Nat) (h0 : 0 ≤ (n0 : Int) ∧ (n0 : Int) ≤ 0) (a1 : Int) (h1 : 1073 ≤ a1 ∧ a1 ≤ 5000) (a2 : Int) (h2 : 1 ≤ a2 ∧ a2 ≤ 1500) : Calls Try.prog 3 #[.slice p0 n0 c0, .int .i64 a1, .int .i64 a2] w fun e w' => e = .returned (.bool true) ∧ Kp [] w w' := by
  exact run_bool2F follows_mixed plansZ2_ok sumsK17_ok (pZ2_ok ) (rhoG [(n0 : Int), a1, a2, 1, 12, 32, 72, 152, 312, 632, 1232, 1] [] [(p0, c0)]) (rgOk_cons ⟨h0.1, h0.2⟩ (rgOk_cons ⟨h1.1, h1.2⟩ (rgOk_cons ⟨h2.1, h2.2⟩ (rgOk_cons (by show (1 : Int) ≤ 1 ∧ 1 ≤ (10 : Int); decide) (rgOk_cons (by show (12 : Int) ≤ 12 ∧ 12 ≤ (30 : Int); decide) (rgOk_cons (by show (32 : Int) ≤ 32 ∧ 32 ≤ (70 : Int); decide) (rgOk_cons (by show (72 : Int) ≤ 72 ∧ 72 ≤ (150 : Int); decide) (rgOk_cons (by show (152 : Int) ≤ 152 ∧ 152 ≤ (310 : Int); decide) (rgOk_cons (by show (312 : Int) ≤ 312 ∧ 312 ≤ (630 : Int); decide) (rgOk_cons (by show (632 : Int) ≤ 632 ∧ 632 ≤ (1230 : Int); decide) (rgOk_cons (by show (1232 : Int) ≤ 1232 ∧ 1232 ≤ (1499 : Int); decide) (rgOk_cons (by show (1 : Int) ≤ 1 ∧ 1 ≤ (1499 : Int); decide) (rgOk_nil))))))))))))) (.inl rfl) (xs := [.slice p0 n0 c0, .int .i64 a1, .int .i64 a2]) (concL_mk (conc_osl (k := 0) (by decide) rfl rfl) (concL_mk rfl (concL_mk rfl (rfl)))) w (foOk_rhoG (fun x hx => by cases hx))

end Go.Proofs.Ytjblchdoalipeaa.connWindow

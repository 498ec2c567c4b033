/-
  ConnWindow: runs, Z2t, A0t.
-/
import Derived.Test.YtjblchdoalipeaaCg
import Derived.Test.YtjblchdoalipeaaPlsOk
import Derived.Test.YtjblchdoalipeaaK17
set_option linter.unusedVariables false
set_option linter.unusedSimpArgs false
namespace Go.Proofs.Ytjblchdoalipeaa.connWindow
open Go

set_option maxRecDepth 1000000 in
theorem pZ2t_ok  : okT2 0 (.ofNat 0) 0 (isB true) (evCall Try.prog plans sumsK17 100000 3 [.osl 300 0 303, .int .i64 (.var 1), .int .i64 (.lit (.ofNat 0))] (s0 [] [[]] [((.ofNat 0), (.ofNat 0)), ((.ofNat 1073), (.ofNat 5000)), ((.ofNat 0), (.ofNat 0))]) finK) [] = true := by kernel_rfl
theorem pZ2t_any (w : World) (p0 : Option Addr) (n0 c0 : Nat) (h0 : 0 ≤ (n0 : Int) ∧ (n0 : Int) ≤ 0) (a1 : Int) (h1 : 1073 ≤ a1 ∧ a1 ≤ 5000) (a2 : Int) (h2 : 0 ≤ a2 ∧ a2 ≤ 0) : Calls Try.prog 3 #[.slice p0 n0 c0, .int .i64 a1, .int .i64 a2] w fun e w' => e = .returned (.bool true) ∧ Kp [] w w' := by
  obtain rfl : a2 = 0 := by omega
  exact run_bool2F follows_mixed plans_ok sumsK17_ok (pZ2t_ok ) (rhoG [(n0 : Int), a1, 0] [] [(p0, c0)]) (rgOk_cons ⟨h0.1, h0.2⟩ (rgOk_cons ⟨h1.1, h1.2⟩ (rgOk_cons ⟨Int.le_refl _, Int.le_refl _⟩ (rgOk_nil)))) (.inl rfl) (xs := [.slice p0 n0 c0, .int .i64 a1, .int .i64 0]) (concL_mk (conc_osl (k := 0) (by decide) rfl rfl) (concL_mk rfl (concL_mk rfl (rfl)))) w (foOk_rhoG (fun x hx => by cases hx))

set_option maxRecDepth 1000000 in
theorem pA0t_ok  : okT2 0 (.ofNat 0) 0 (isB true) (evCall Try.prog plans sumsK17 100000 3 [.fsl 32 zeroS zeroS (natS 1), .int .i64 (.lit (.ofNat 0)), .int .i64 (.lit (.ofNat 0))] (s0 [] [[]] [((.ofNat 0), (.ofNat 0)), ((.ofNat 0), (.ofNat 0)), ((.ofNat 0), (.ofNat 0)), ((.ofNat 0), (.ofNat 0)), ((.ofNat 0), (.ofNat 0)), ((.ofNat 0), (.ofNat 0)), ((.ofNat 0), (.ofNat 0)), ((.ofNat 0), (.ofNat 0)), ((.ofNat 0), (.ofNat 0)), ((.ofNat 0), (.ofNat 0)), ((.ofNat 0), (.ofNat 0)), ((.ofNat 0), (.ofNat 0)), ((.ofNat 0), (.ofNat 0)), ((.ofNat 0), (.ofNat 0)), ((.ofNat 0), (.ofNat 0)), ((.ofNat 0), (.ofNat 0)), ((.ofNat 0), (.ofNat 0)), ((.ofNat 0), (.ofNat 0)), ((.ofNat 0), (.ofNat 0)), ((.ofNat 0), (.ofNat 0)), ((.ofNat 0), (.ofNat 0)), ((.ofNat 0), (.ofNat 0)), ((.ofNat 0), (.ofNat 0)), ((.ofNat 0), (.ofNat 0)), ((.ofNat 0), (.ofNat 0)), ((.ofNat 0), (.ofNat 0)), ((.ofNat 0), (.ofNat 0)), ((.ofNat 0), (.ofNat 0)), ((.ofNat 0), (.ofNat 0)), ((.ofNat 0), (.ofNat 0)), ((.ofNat 0), (.ofNat 0)), ((.ofNat 0), (.ofNat 0)), ((.ofNat 1), (.ofNat 1))]) finK) [] = true := by kernel_rfl
theorem pA0t_any (w : World) (r0 : RowD) (k0 : r0.Ok w) (h0 : 1 ≤ (r0.n : Int) ∧ (r0.n : Int) ≤ 1) (a1 : Int) (h1 : 0 ≤ a1 ∧ a1 ≤ 0) (a2 : Int) (h2 : 0 ≤ a2 ∧ a2 ≤ 0) : Calls Try.prog 3 #[r0.v, .int .i64 a1, .int .i64 a2] w fun e w' => e = .returned (.bool true) ∧ Kp [] w w' := by
  obtain rfl : a1 = 0 := by omega
  obtain rfl : a2 = 0 := by omega
  exact run_bool2F follows_mixed plans_ok sumsK17_ok (pA0t_ok ) (rhoG [0, 0, 0] [r0] [(none, 0)]) (rgOk_cons ⟨Int.le_refl _, Int.le_refl _⟩ (rgOk_cons ⟨Int.le_refl _, Int.le_refl _⟩ (rgOk_cons ⟨Int.le_refl _, Int.le_refl _⟩ (rgOk_cons ⟨Int.le_refl _, Int.le_refl _⟩ (rgOk_cons ⟨Int.le_refl _, Int.le_refl _⟩ (rgOk_cons ⟨Int.le_refl _, Int.le_refl _⟩ (rgOk_cons ⟨Int.le_refl _, Int.le_refl _⟩ (rgOk_cons ⟨Int.le_refl _, Int.le_refl _⟩ (rgOk_cons ⟨Int.le_refl _, Int.le_refl _⟩ (rgOk_cons ⟨Int.le_refl _, Int.le_refl _⟩ (rgOk_cons ⟨Int.le_refl _, Int.le_refl _⟩ (rgOk_cons ⟨Int.le_refl _, Int.le_refl _⟩ (rgOk_cons ⟨Int.le_refl _, Int.le_refl _⟩ (rgOk_cons ⟨Int.le_refl _, Int.le_refl _⟩ (rgOk_cons ⟨Int.le_refl _, Int.le_refl _⟩ (rgOk_cons ⟨Int.le_refl _, Int.le_refl _⟩ (rgOk_cons ⟨Int.le_refl _, Int.le_refl _⟩ (rgOk_cons ⟨Int.le_refl _, Int.le_refl _⟩ (rgOk_cons ⟨Int.le_refl _, Int.le_refl _⟩ (rgOk_cons ⟨Int.le_refl _, Int.le_refl _⟩ (rgOk_cons ⟨Int.le_refl _, Int.le_refl _⟩ (rgOk_cons ⟨Int.le_refl _, Int.le_refl _⟩ (rgOk_cons ⟨Int.le_refl _, Int.le_refl _⟩ (rgOk_cons ⟨Int.le_refl _, Int.le_refl _⟩ (rgOk_cons ⟨Int.le_refl _, Int.le_refl _⟩ (rgOk_cons ⟨Int.le_refl _, Int.le_refl _⟩ (rgOk_cons ⟨Int.le_refl _, Int.le_refl _⟩ (rgOk_cons ⟨Int.le_refl _, Int.le_refl _⟩ (rgOk_cons ⟨Int.le_refl _, Int.le_refl _⟩ (rgOk_cons ⟨Int.le_refl _, Int.le_refl _⟩ (rgOk_cons ⟨Int.le_refl _, Int.le_refl _⟩ (rgOk_cons ⟨Int.le_refl _, Int.le_refl _⟩ (rgOk_cons ⟨h0.1, h0.2⟩ (rgOk_nil)))))))))))))))))))))))))))))))))) (.inl rfl) (xs := [r0.v, .int .i64 0, .int .i64 0]) (concL_mk (conc_rhoL (by decide) (by decide) rfl k0.le (by omega)) (concL_mk rfl (concL_mk rfl (rfl)))) w (foOk_rhoG (List.forall_mem_cons.2 ⟨k0, (fun x hx => by cases hx)⟩))

end Go.Proofs.Ytjblchdoalipeaa.connWindow

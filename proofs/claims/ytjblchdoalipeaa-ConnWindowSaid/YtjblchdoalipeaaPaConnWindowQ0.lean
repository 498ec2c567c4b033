/-
  ConnWindow: runs, L, WL.
-/
import Derived.Test.YtjblchdoalipeaaCg
import Derived.Test.YtjblchdoalipeaaPlsOk
import Derived.Test.YtjblchdoalipeaaK17
set_option linter.unusedVariables false
set_option linter.unusedSimpArgs false
namespace Go.Proofs.Ytjblchdoalipeaa.connWindow
open Go

def pL_dead : List (List (SB × Bool)) := []
noncomputable def pL_tree : R := fillT endT []
set_option maxRecDepth 1000000 in
theorem pL_run  : evCall Try.prog plans sumsK17 100000 3 [.osl 300 0 303, .int .i64 (.var 1), .int .i64 (.var 2)] (s0 [] [[(.ofNat 6001), (.negSucc 9223372036854775807), (.negSucc 9223372036854775807)]] [((.ofNat 6001), (.ofNat 9223372036854775807)), ((.negSucc 9223372036854775807), (.ofNat 9223372036854775807)), ((.negSucc 9223372036854775807), (.ofNat 9223372036854775807))]) finK = pL_tree := by kernel_rfl
set_option maxRecDepth 1000000 in
theorem pL_ok : okTree pL_tree true [] pL_dead = true := by kernel_rfl
theorem pL_any (w : World) (p0 : Option Addr) (n0 c0 : Nat) (h0 : 6001 ≤ (n0 : Int) ∧ (n0 : Int) ≤ 9223372036854775807) (a1 : Int) (h1 : (-9223372036854775808) ≤ a1 ∧ a1 ≤ 9223372036854775807) (a2 : Int) (h2 : (-9223372036854775808) ≤ a2 ∧ a2 ≤ 9223372036854775807) : Calls Try.prog 3 #[.slice p0 n0 c0, .int .i64 a1, .int .i64 a2] w fun e w' => e = .returned (.bool true) ∧ Kp [] w w' := by
  exact run_boolF (ds := pL_dead) follows_mixed plans_ok sumsK17_ok (pL_run ) pL_ok (rhoG [(n0 : Int), a1, a2] [] [(p0, c0)]) (fun x hx => by cases hx) (rgOk_cons ⟨h0.1, h0.2⟩ (rgOk_cons ⟨h1.1, h1.2⟩ (rgOk_cons ⟨h2.1, h2.2⟩ (rgOk_nil)))) (fun d hd => by simp [pL_dead] at hd) (xs := [.slice p0 n0 c0, .int .i64 a1, .int .i64 a2]) (concL_mk (conc_osl (k := 0) (by decide) rfl rfl) (concL_mk rfl (concL_mk rfl (rfl)))) w (foOk_rhoG (fun x hx => by cases hx))

def pWL_dead : List (List (SB × Bool)) := []
noncomputable def pWL_tree : R := fillT endT []
set_option maxRecDepth 1000000 in
theorem pWL_run  : evCall Try.prog plans sumsK17 100000 3 [.osl 300 0 303, .int .i64 (.var 1), .int .i64 (.var 2)] (s0 [] [[(.ofNat 0), (.negSucc 9223372036854775807), (.negSucc 9223372036854775807)]] [((.ofNat 0), (.ofNat 6000)), ((.negSucc 9223372036854775807), (.negSucc 0)), ((.negSucc 9223372036854775807), (.ofNat 9223372036854775807))]) finK = pWL_tree := by kernel_rfl
set_option maxRecDepth 1000000 in
theorem pWL_ok : okTree pWL_tree true [] pWL_dead = true := by kernel_rfl
theorem pWL_any (w : World) (p0 : Option Addr) (n0 c0 : Nat) (h0 : 0 ≤ (n0 : Int) ∧ (n0 : Int) ≤ 6000) (a1 : Int) (h1 : (-9223372036854775808) ≤ a1 ∧ a1 ≤ (-1)) (a2 : Int) (h2 : (-9223372036854775808) ≤ a2 ∧ a2 ≤ 9223372036854775807) : Calls Try.prog 3 #[.slice p0 n0 c0, .int .i64 a1, .int .i64 a2] w fun e w' => e = .returned (.bool true) ∧ Kp [] w w' := by
  exact run_boolF (ds := pWL_dead) follows_mixed plans_ok sumsK17_ok (pWL_run ) pWL_ok (rhoG [(n0 : Int), a1, a2] [] [(p0, c0)]) (fun x hx => by cases hx) (rgOk_cons ⟨h0.1, h0.2⟩ (rgOk_cons ⟨h1.1, h1.2⟩ (rgOk_cons ⟨h2.1, h2.2⟩ (rgOk_nil)))) (fun d hd => by simp [pWL_dead] at hd) (xs := [.slice p0 n0 c0, .int .i64 a1, .int .i64 a2]) (concL_mk (conc_osl (k := 0) (by decide) rfl rfl) (concL_mk rfl (concL_mk rfl (rfl)))) w (foOk_rhoG (fun x hx => by cases hx))

end Go.Proofs.Ytjblchdoalipeaa.connWindow

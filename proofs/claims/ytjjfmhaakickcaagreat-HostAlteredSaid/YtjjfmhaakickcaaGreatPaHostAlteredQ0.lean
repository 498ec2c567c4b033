/-
  HostAltered: runs, Big, Zero.
-/
import Derived.Test.YtjjfmhaakickcaaGreatCg
import Derived.Test.YtjjfmhaakickcaaGreatPlsOk
import Derived.Test.YtjjfmhaakickcaaGreatK19
set_option linter.unusedVariables false
set_option linter.unusedSimpArgs false
namespace Go.Proofs.YtjjfmhaakickcaaGreat.hostAltered
open Go

def pBig_dead : List (List (SB × Bool)) := []
noncomputable def pBig_tree : R := fillT endT []
set_option maxRecDepth 1000000 in
theorem pBig_run  : evCall Tryz.prog plans sumsK19 100000 3 [.osl 300 0 303, .int .i64 (.var 1), .int .u8 (.var 2), .bool (.cmp .neq (.var 3) (.lit (.ofNat 0)))] (s0 [] [[(.ofNat 1001), (.negSucc 9223372036854775807), (.ofNat 0), (.ofNat 0)]] [((.ofNat 1001), (.ofNat 9223372036854775807)), ((.negSucc 9223372036854775807), (.ofNat 9223372036854775807)), ((.ofNat 0), (.ofNat 255)), ((.ofNat 0), (.ofNat 1))]) finK = pBig_tree := by kernel_rfl
set_option maxRecDepth 1000000 in
theorem pBig_ok : okTree pBig_tree true [] pBig_dead = true := by kernel_rfl
theorem pBig_any (w : World) (p0 : Option Addr) (n0 c0 : Nat) (h0 : 1001 ≤ (n0 : Int) ∧ (n0 : Int) ≤ 9223372036854775807) (a1 : Int) (h1 : (-9223372036854775808) ≤ a1 ∧ a1 ≤ 9223372036854775807) (a2 : Int) (h2 : 0 ≤ a2 ∧ a2 ≤ 255) (b3 : Bool) : Calls Tryz.prog 3 #[.slice p0 n0 c0, .int .i64 a1, .int .u8 a2, .bool b3] w fun e w' => e = .returned (.bool true) ∧ Kp [] w w' := by
  exact run_boolF (ds := pBig_dead) follows_mixed plans_ok sumsK19_ok (pBig_run ) pBig_ok (rhoG [(n0 : Int), a1, a2, (if b3 then 1 else 0)] [] [(p0, c0)]) (fun x hx => by cases hx) (rgOk_cons ⟨h0.1, h0.2⟩ (rgOk_cons ⟨h1.1, h1.2⟩ (rgOk_cons ⟨h2.1, h2.2⟩ (rgOk_cons (by show (0 : Int) ≤ (if b3 then 1 else 0) ∧ (if b3 then 1 else 0) ≤ (1 : Int); cases b3 <;> decide) (rgOk_nil))))) (fun d hd => by simp [pBig_dead] at hd) (xs := [.slice p0 n0 c0, .int .i64 a1, .int .u8 a2, .bool b3]) (concL_mk (conc_osl (k := 0) (by decide) rfl rfl) (concL_mk rfl (concL_mk rfl (concL_mk ((by cases b3 <;> rfl)) (rfl))))) w (foOk_rhoG (fun x hx => by cases hx))

def pZero_dead : List (List (SB × Bool)) := []
noncomputable def pZero_tree : R := fillT endT []
set_option maxRecDepth 1000000 in
theorem pZero_run  : evCall Tryz.prog plans sumsK19 100000 3 [.osl 300 0 303, .int .i64 (.var 1), .int .u8 (.lit (.ofNat 0)), .bool (.cmp .neq (.var 3) (.lit (.ofNat 0)))] (s0 [] [[(.ofNat 0), (.negSucc 9223372036854775807), (.ofNat 0), (.ofNat 0)]] [((.ofNat 0), (.ofNat 1000)), ((.negSucc 9223372036854775807), (.ofNat 9223372036854775807)), ((.ofNat 0), (.ofNat 0)), ((.ofNat 0), (.ofNat 1))]) finK = pZero_tree := by kernel_rfl
set_option maxRecDepth 1000000 in
theorem pZero_ok : okTree pZero_tree true [] pZero_dead = true := by kernel_rfl
theorem pZero_any (w : World) (p0 : Option Addr) (n0 c0 : Nat) (h0 : 0 ≤ (n0 : Int) ∧ (n0 : Int) ≤ 1000) (a1 : Int) (h1 : (-9223372036854775808) ≤ a1 ∧ a1 ≤ 9223372036854775807) (a2 : Int) (h2 : 0 ≤ a2 ∧ a2 ≤ 0) (b3 : Bool) : Calls Tryz.prog 3 #[.slice p0 n0 c0, .int .i64 a1, .int .u8 a2, .bool b3] w fun e w' => e = .returned (.bool true) ∧ Kp [] w w' := by
  obtain rfl : a2 = 0 := by omega
  exact run_boolF (ds := pZero_dead) follows_mixed plans_ok sumsK19_ok (pZero_run ) pZero_ok (rhoG [(n0 : Int), a1, 0, (if b3 then 1 else 0)] [] [(p0, c0)]) (fun x hx => by cases hx) (rgOk_cons ⟨h0.1, h0.2⟩ (rgOk_cons ⟨h1.1, h1.2⟩ (rgOk_cons ⟨Int.le_refl _, Int.le_refl _⟩ (rgOk_cons (by show (0 : Int) ≤ (if b3 then 1 else 0) ∧ (if b3 then 1 else 0) ≤ (1 : Int); cases b3 <;> decide) (rgOk_nil))))) (fun d hd => by simp [pZero_dead] at hd) (xs := [.slice p0 n0 c0, .int .i64 a1, .int .u8 0, .bool b3]) (concL_mk (conc_osl (k := 0) (by decide) rfl rfl) (concL_mk rfl (concL_mk rfl (concL_mk ((by cases b3 <;> rfl)) (rfl))))) w (foOk_rhoG (fun x hx => by cases hx))

end Go.Proofs.YtjjfmhaakickcaaGreat.hostAltered

/-
  WorldRefuses: runs, L.
-/
import Derived.Test.YtnhpfkjblnclnaaGreatCg
import Derived.Test.YtnhpfkjblnclnaaGreatPlsOk
import Derived.Test.YtnhpfkjblnclnaaGreatSgYS
set_option linter.unusedVariables false
set_option linter.unusedSimpArgs false
namespace Go.Proofs.YtnhpfkjblnclnaaGreat.worldRefuses
open Go

def pL_dead : List (List (SB × Bool)) := []
noncomputable def pL_tree : R := fillT endT []
set_option maxRecDepth 1000000 in
theorem pL_run  : evCall Tryz.prog plans worldRefuses.t.sumsY 100000 6 [.int .i64 (.var 0), .bool (.cmp .neq (.var 1) (.lit (.ofNat 0)))] (s0 [] [[(.negSucc 9223372036854775807), (.ofNat 0)]] [((.negSucc 9223372036854775807), (.ofNat 0)), ((.ofNat 0), (.ofNat 1))]) finK = pL_tree := by kernel_rfl
set_option maxRecDepth 1000000 in
theorem pL_ok : okTree pL_tree true [] pL_dead = true := by kernel_rfl
theorem pL_any (w : World) (a0 : Int) (h0 : (-9223372036854775808) ≤ a0 ∧ a0 ≤ 0) (b1 : Bool) : Calls Tryz.prog 6 #[.int .i64 a0, .bool b1] w fun e w' => e = .returned (.bool true) ∧ Kp [] w w' := by
  exact run_boolF (ds := pL_dead) follows_mixed plans_ok worldRefuses.t.sumsY_ok (pL_run ) pL_ok (rhoG [a0, (if b1 then 1 else 0)] [] []) (fun x hx => by cases hx) (rgOk_cons ⟨h0.1, h0.2⟩ (rgOk_cons (by show (0 : Int) ≤ (if b1 then 1 else 0) ∧ (if b1 then 1 else 0) ≤ (1 : Int); cases b1 <;> decide) (rgOk_nil))) (fun d hd => by simp [pL_dead] at hd) (xs := [.int .i64 a0, .bool b1]) (concL_mk rfl (concL_mk ((by cases b1 <;> rfl)) (rfl))) w (foOk_rhoG (fun x hx => by cases hx))

end Go.Proofs.YtnhpfkjblnclnaaGreat.worldRefuses

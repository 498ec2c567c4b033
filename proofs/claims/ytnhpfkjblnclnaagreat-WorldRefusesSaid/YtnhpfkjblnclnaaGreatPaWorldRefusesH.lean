/-
  WorldRefuses: runs, H.
-/
import Derived.Test.YtnhpfkjblnclnaaGreatCg
import Derived.Test.YtnhpfkjblnclnaaGreatPlsOk
import Derived.Test.YtnhpfkjblnclnaaGreatSgYS
set_option linter.unusedVariables false
set_option linter.unusedSimpArgs false
namespace Go.Proofs.YtnhpfkjblnclnaaGreat.worldRefuses
open Go

def pH_dead : List (List (SB × Bool)) := []
noncomputable def pH_tree : R := fillT endT []
set_option maxRecDepth 1000000 in
theorem pH_run  : evCall Tryz.prog plans worldRefuses.t.sumsY 100000 6 [.int .i64 (.var 0), .bool (.cmp .neq (.var 1) (.lit (.ofNat 0)))] (s0 [] [[(.ofNat 65536), (.ofNat 0)]] [((.ofNat 65536), (.ofNat 9223372036854775807)), ((.ofNat 0), (.ofNat 1))]) finK = pH_tree := by kernel_rfl
set_option maxRecDepth 1000000 in
theorem pH_ok : okTree pH_tree true [] pH_dead = true := by kernel_rfl
theorem pH_any (w : World) (a0 : Int) (h0 : 65536 ≤ a0 ∧ a0 ≤ 9223372036854775807) (b1 : Bool) : Calls Tryz.prog 6 #[.int .i64 a0, .bool b1] w fun e w' => e = .returned (.bool true) ∧ Kp [] w w' := by
  exact run_boolF (ds := pH_dead) follows_mixed plans_ok worldRefuses.t.sumsY_ok (pH_run ) pH_ok (rhoG [a0, (if b1 then 1 else 0)] [] []) (fun x hx => by cases hx) (rgOk_cons ⟨h0.1, h0.2⟩ (rgOk_cons (by show (0 : Int) ≤ (if b1 then 1 else 0) ∧ (if b1 then 1 else 0) ≤ (1 : Int); cases b1 <;> decide) (rgOk_nil))) (fun d hd => by simp [pH_dead] at hd) (xs := [.int .i64 a0, .bool b1]) (concL_mk rfl (concL_mk ((by cases b1 <;> rfl)) (rfl))) w (foOk_rhoG (fun x hx => by cases hx))

end Go.Proofs.YtnhpfkjblnclnaaGreat.worldRefuses

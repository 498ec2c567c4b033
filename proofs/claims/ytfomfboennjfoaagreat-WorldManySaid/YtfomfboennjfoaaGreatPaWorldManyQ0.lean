/-
  WorldMany: runs, NL, NH.
-/
import Derived.Test.YtfomfboennjfoaaGreatCg
import Derived.Test.YtfomfboennjfoaaGreatPlsOk
import Derived.Test.YtfomfboennjfoaaGreatSgWS
set_option linter.unusedVariables false
set_option linter.unusedSimpArgs false
namespace Go.Proofs.YtfomfboennjfoaaGreat.worldMany
open Go

def pNL_dead : List (List (SB × Bool)) := []
noncomputable def pNL_tree : R := fillT endT []
set_option maxRecDepth 1000000 in
theorem pNL_run  : evCall Tryz.prog plans worldMany.sumsm 100000 7 [.int .i64 (.var 0), .int .i64 (.var 1)] (s0 [] [[(.negSucc 9223372036854775807), (.negSucc 9223372036854775807)]] [((.negSucc 9223372036854775807), (.ofNat 0)), ((.negSucc 9223372036854775807), (.ofNat 9223372036854775807))]) finK = pNL_tree := by kernel_rfl
set_option maxRecDepth 1000000 in
theorem pNL_ok : okTree pNL_tree true [] pNL_dead = true := by kernel_rfl
theorem pNL_any (w : World) (a0 : Int) (h0 : (-9223372036854775808) ≤ a0 ∧ a0 ≤ 0) (a1 : Int) (h1 : (-9223372036854775808) ≤ a1 ∧ a1 ≤ 9223372036854775807) : Calls Tryz.prog 7 #[.int .i64 a0, .int .i64 a1] w fun e w' => e = .returned (.bool true) ∧ Kp [] w w' := by
  exact run_boolF (ds := pNL_dead) follows_mixed plans_ok worldMany.sumsm_ok (pNL_run ) pNL_ok (rhoG [a0, a1] [] []) (fun x hx => by cases hx) (rgOk_cons ⟨h0.1, h0.2⟩ (rgOk_cons ⟨h1.1, h1.2⟩ (rgOk_nil))) (fun d hd => by simp [pNL_dead] at hd) (xs := [.int .i64 a0, .int .i64 a1]) (concL_mk rfl (concL_mk rfl (rfl))) w (foOk_rhoG (fun x hx => by cases hx))

def pNH_dead : List (List (SB × Bool)) := []
noncomputable def pNH_tree : R := fillT endT []
set_option maxRecDepth 1000000 in
theorem pNH_run  : evCall Tryz.prog plans worldMany.sumsm 100000 7 [.int .i64 (.var 0), .int .i64 (.var 1)] (s0 [] [[(.ofNat 9), (.negSucc 9223372036854775807)]] [((.ofNat 9), (.ofNat 9223372036854775807)), ((.negSucc 9223372036854775807), (.ofNat 9223372036854775807))]) finK = pNH_tree := by kernel_rfl
set_option maxRecDepth 1000000 in
theorem pNH_ok : okTree pNH_tree true [] pNH_dead = true := by kernel_rfl
theorem pNH_any (w : World) (a0 : Int) (h0 : 9 ≤ a0 ∧ a0 ≤ 9223372036854775807) (a1 : Int) (h1 : (-9223372036854775808) ≤ a1 ∧ a1 ≤ 9223372036854775807) : Calls Tryz.prog 7 #[.int .i64 a0, .int .i64 a1] w fun e w' => e = .returned (.bool true) ∧ Kp [] w w' := by
  exact run_boolF (ds := pNH_dead) follows_mixed plans_ok worldMany.sumsm_ok (pNH_run ) pNH_ok (rhoG [a0, a1] [] []) (fun x hx => by cases hx) (rgOk_cons ⟨h0.1, h0.2⟩ (rgOk_cons ⟨h1.1, h1.2⟩ (rgOk_nil))) (fun d hd => by simp [pNH_dead] at hd) (xs := [.int .i64 a0, .int .i64 a1]) (concL_mk rfl (concL_mk rfl (rfl))) w (foOk_rhoG (fun x hx => by cases hx))

end Go.Proofs.YtfomfboennjfoaaGreat.worldMany

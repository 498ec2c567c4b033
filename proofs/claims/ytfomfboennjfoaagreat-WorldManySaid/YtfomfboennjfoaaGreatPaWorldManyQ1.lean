/-
  WorldMany: runs, PL, PH.
-/
import Derived.Test.YtfomfboennjfoaaGreatCg
import Derived.Test.YtfomfboennjfoaaGreatPlsOk
import Derived.Test.YtfomfboennjfoaaGreatSgWS
set_option linter.unusedVariables false
set_option linter.unusedSimpArgs false
namespace Go.Proofs.YtfomfboennjfoaaGreat.worldMany
open Go

def pPL_dead : List (List (SB × Bool)) := []
noncomputable def pPL_tree : R := fillT endT []
set_option maxRecDepth 1000000 in
theorem pPL_run  : evCall Tryz.prog plans worldMany.sumsm 100000 7 [.int .i64 (.var 0), .int .i64 (.var 1)] (s0 [] [[(.ofNat 1), (.negSucc 9223372036854775807)]] [((.ofNat 1), (.ofNat 8)), ((.negSucc 9223372036854775807), (.ofNat 0))]) finK = pPL_tree := by kernel_rfl
set_option maxRecDepth 1000000 in
theorem pPL_ok : okTree pPL_tree true [] pPL_dead = true := by kernel_rfl
theorem pPL_any (w : World) (a0 : Int) (h0 : 1 ≤ a0 ∧ a0 ≤ 8) (a1 : Int) (h1 : (-9223372036854775808) ≤ a1 ∧ a1 ≤ 0) : Calls Tryz.prog 7 #[.int .i64 a0, .int .i64 a1] w fun e w' => e = .returned (.bool true) ∧ Kp [] w w' := by
  exact run_boolF (ds := pPL_dead) follows_mixed plans_ok worldMany.sumsm_ok (pPL_run ) pPL_ok (rhoG [a0, a1] [] []) (fun x hx => by cases hx) (rgOk_cons ⟨h0.1, h0.2⟩ (rgOk_cons ⟨h1.1, h1.2⟩ (rgOk_nil))) (fun d hd => by simp [pPL_dead] at hd) (xs := [.int .i64 a0, .int .i64 a1]) (concL_mk rfl (concL_mk rfl (rfl))) w (foOk_rhoG (fun x hx => by cases hx))

def pPH_dead : List (List (SB × Bool)) := []
noncomputable def pPH_tree : R := fillT endT []
set_option maxRecDepth 1000000 in
theorem pPH_run  : evCall Tryz.prog plans worldMany.sumsm 100000 7 [.int .i64 (.var 0), .int .i64 (.var 1)] (s0 [] [[(.ofNat 1), (.ofNat 65536)]] [((.ofNat 1), (.ofNat 8)), ((.ofNat 65536), (.ofNat 9223372036854775807))]) finK = pPH_tree := by kernel_rfl
set_option maxRecDepth 1000000 in
theorem pPH_ok : okTree pPH_tree true [] pPH_dead = true := by kernel_rfl
theorem pPH_any (w : World) (a0 : Int) (h0 : 1 ≤ a0 ∧ a0 ≤ 8) (a1 : Int) (h1 : 65536 ≤ a1 ∧ a1 ≤ 9223372036854775807) : Calls Tryz.prog 7 #[.int .i64 a0, .int .i64 a1] w fun e w' => e = .returned (.bool true) ∧ Kp [] w w' := by
  exact run_boolF (ds := pPH_dead) follows_mixed plans_ok worldMany.sumsm_ok (pPH_run ) pPH_ok (rhoG [a0, a1] [] []) (fun x hx => by cases hx) (rgOk_cons ⟨h0.1, h0.2⟩ (rgOk_cons ⟨h1.1, h1.2⟩ (rgOk_nil))) (fun d hd => by simp [pPH_dead] at hd) (xs := [.int .i64 a0, .int .i64 a1]) (concL_mk rfl (concL_mk rfl (rfl))) w (foOk_rhoG (fun x hx => by cases hx))

end Go.Proofs.YtfomfboennjfoaaGreat.worldMany

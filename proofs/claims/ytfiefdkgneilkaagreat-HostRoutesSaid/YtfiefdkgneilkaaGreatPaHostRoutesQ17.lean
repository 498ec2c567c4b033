/-
  HostRoutes: runs, G.
-/
import Derived.Test.YtfiefdkgneilkaaGreatSxw
import Derived.Test.YtfiefdkgneilkaaGreatRs
import Derived.Test.YtfiefdkgneilkaaGreatPlsOk
set_option linter.unusedVariables false
set_option linter.unusedSimpArgs false
namespace Go.Proofs.YtfiefdkgneilkaaGreat.hostRoutes
open Go

def pG_dead : List (List (SB × Bool)) := []
def pG_tree : R := (.done (.bool (.lit .true)) ⟨.nil, 0, ⟨[], [], []⟩⟩)
set_option maxRecDepth 1000000 in
theorem pG_run : evCall Tryz.prog plans sumsH 100000 7 [.int .u32 (.var 0), .bool (.cmp .neq (.var 1) (.lit (.ofNat 0)))] (s0 [] [[(.ofNat 3758096384), (.ofNat 0)]] [((.ofNat 3758096384), (.ofNat 4294967295)), ((.ofNat 0), (.ofNat 1))]) finK = pG_tree := by kernel_rfl
set_option maxRecDepth 1000000 in
theorem pG_ok : okTree pG_tree true [] pG_dead = true := by kernel_rfl
theorem pG_any (a0 : Int) (h0 : 3758096384 ≤ a0 ∧ a0 ≤ 4294967295) (b1 : Bool) (w : World) : Calls Tryz.prog 7 #[.int .u32 a0, .bool b1] w fun e w' => e = .returned (.bool true) ∧ Kp [] w w' := by
  exact run_bool (ds := pG_dead) follows_mixed plans_ok sumsH_ok pG_run pG_ok (fun i => if i = 0 then a0 else if i = 1 then (if b1 then 1 else 0) else 0) (fun x hx => by cases hx) (rgOk_cons ⟨h0.1, h0.2⟩ (rgOk_cons (by show (0 : Int) ≤ (if b1 then 1 else 0) ∧ (if b1 then 1 else 0) ≤ (1 : Int); cases b1 <;> decide) (rgOk_nil))) (fun d hd => by simp [pG_dead] at hd) (xs := [.int .u32 a0, .bool b1]) (by cases b1 <;> rfl) w

end Go.Proofs.YtfiefdkgneilkaaGreat.hostRoutes

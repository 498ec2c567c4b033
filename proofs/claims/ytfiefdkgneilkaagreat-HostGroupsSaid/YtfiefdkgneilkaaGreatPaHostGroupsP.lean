/-
  HostGroups: runs, P.
-/
import Derived.Test.YtfiefdkgneilkaaGreatK19
import Derived.Test.YtfiefdkgneilkaaGreatRs
import Derived.Test.YtfiefdkgneilkaaGreatPlsOk
set_option linter.unusedVariables false
set_option linter.unusedSimpArgs false
namespace Go.Proofs.YtfiefdkgneilkaaGreat.hostGroups
open Go

def pP_dead : List (List (SB × Bool)) := []
def pP_tree : R := (.done (.bool (.lit .true)) ⟨.nil, 0, ⟨[], [], []⟩⟩)
set_option maxRecDepth 1000000 in
theorem pP_run : evCall Tryz.prog plans sumsK19 100000 9 [.int .u32 (.var 0), .bool (.cmp .neq (.var 1) (.lit (.ofNat 0))), .int .i64 (.var 2)] (s0 [] [[(.ofNat 3758096386), (.ofNat 0), (.negSucc 9223372036854775807)]] [((.ofNat 3758096386), (.ofNat 4026531839)), ((.ofNat 0), (.ofNat 1)), ((.negSucc 9223372036854775807), (.ofNat 0))]) finK = pP_tree := by kernel_rfl
set_option maxRecDepth 1000000 in
theorem pP_ok : okTree pP_tree true [] pP_dead = true := by kernel_rfl
theorem pP_any (a0 : Int) (h0 : 3758096386 ≤ a0 ∧ a0 ≤ 4026531839) (b1 : Bool) (a2 : Int) (h2 : (-9223372036854775808) ≤ a2 ∧ a2 ≤ 0) (w : World) : Calls Tryz.prog 9 #[.int .u32 a0, .bool b1, .int .i64 a2] w fun e w' => e = .returned (.bool true) ∧ Kp [] w w' := by
  exact run_bool (ds := pP_dead) follows_mixed plans_ok sumsK19_ok (pP_run) pP_ok (fun i => if i = 0 then a0 else if i = 1 then (if b1 then 1 else 0) else if i = 2 then a2 else 0) (fun x hx => by cases hx) (rgOk_cons (⟨h0.1, h0.2⟩) (rgOk_cons ((by show (0 : Int) ≤ (if b1 then 1 else 0) ∧ (if b1 then 1 else 0) ≤ (1 : Int); cases b1 <;> decide)) (rgOk_cons (⟨h2.1, h2.2⟩) (rgOk_nil)))) (fun d hd => by simp [pP_dead] at hd) (xs := [.int .u32 a0, .bool b1, .int .i64 a2]) (by cases b1 <;> rfl) w

end Go.Proofs.YtfiefdkgneilkaaGreat.hostGroups

/-
  HostGroups: runs, L.
-/
import Derived.Test.YtfiefdkgneilkaaGreatK19
import Derived.Test.YtfiefdkgneilkaaGreatRs
import Derived.Test.YtfiefdkgneilkaaGreatPlsOk
set_option linter.unusedVariables false
set_option linter.unusedSimpArgs false
namespace Go.Proofs.YtfiefdkgneilkaaGreat.hostGroups
open Go

def pL_dead : List (List (SB × Bool)) := []
def pL_tree : R := (.fork (.cmp .lss (.var 2) (.lit (.ofNat 1))) (.done (.bool (.lit .true)) ⟨.nil, 0, ⟨[((.cmp .lss (.var 2) (.lit (.ofNat 1))), true)], [], []⟩⟩) (.fork (.cmp .lss (.lit (.ofNat 65535)) (.var 2)) (.done (.bool (.lit .true)) ⟨.nil, 0, ⟨[((.cmp .lss (.lit (.ofNat 65535)) (.var 2)), true), ((.cmp .lss (.var 2) (.lit (.ofNat 1))), false)], [], []⟩⟩) (.done (.bool (.lit .true)) ⟨.nil, 0, ⟨[((.cmp .lss (.lit (.ofNat 65535)) (.var 2)), false), ((.cmp .lss (.var 2) (.lit (.ofNat 1))), false)], [], []⟩⟩)))
set_option maxRecDepth 1000000 in
theorem pL_run : evCall Tryz.prog plans sumsK19 100000 9 [.int .u32 (.var 0), .bool (.cmp .neq (.var 1) (.lit (.ofNat 0))), .int .i64 (.var 2)] (s0 [] [[(.ofNat 0), (.ofNat 0), (.negSucc 9223372036854775807)], [(.ofNat 0), (.ofNat 0), (.ofNat 1)], [(.ofNat 0), (.ofNat 0), (.ofNat 9223372036854710272)]] [((.ofNat 0), (.ofNat 3758096385)), ((.ofNat 0), (.ofNat 1)), ((.negSucc 9223372036854775807), (.ofNat 9223372036854775807))]) finK = pL_tree := by kernel_rfl
set_option maxRecDepth 1000000 in
theorem pL_ok : okTree pL_tree true [] pL_dead = true := by kernel_rfl
theorem pL_any (a0 : Int) (h0 : 0 ≤ a0 ∧ a0 ≤ 3758096385) (b1 : Bool) (a2 : Int) (h2 : (-9223372036854775808) ≤ a2 ∧ a2 ≤ 9223372036854775807) (w : World) : Calls Tryz.prog 9 #[.int .u32 a0, .bool b1, .int .i64 a2] w fun e w' => e = .returned (.bool true) ∧ Kp [] w w' := by
  exact run_bool (ds := pL_dead) follows_mixed plans_ok sumsK19_ok (pL_run) pL_ok (fun i => if i = 0 then a0 else if i = 1 then (if b1 then 1 else 0) else if i = 2 then a2 else 0) (fun x hx => by cases hx) (rgOk_cons (⟨h0.1, h0.2⟩) (rgOk_cons ((by show (0 : Int) ≤ (if b1 then 1 else 0) ∧ (if b1 then 1 else 0) ≤ (1 : Int); cases b1 <;> decide)) (rgOk_cons (⟨h2.1, h2.2⟩) (rgOk_nil)))) (fun d hd => by simp [pL_dead] at hd) (xs := [.int .u32 a0, .bool b1, .int .i64 a2]) (by cases b1 <;> rfl) w

end Go.Proofs.YtfiefdkgneilkaaGreat.hostGroups

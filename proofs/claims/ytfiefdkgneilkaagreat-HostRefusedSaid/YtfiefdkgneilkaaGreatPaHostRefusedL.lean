/-
  HostRefused: a run, L.
-/
import Derived.Test.YtfiefdkgneilkaaGreatSxw
import Derived.Test.YtfiefdkgneilkaaGreatRs
import Derived.Test.YtfiefdkgneilkaaGreatPlsOk
set_option linter.unusedVariables false
set_option linter.unusedSimpArgs false
namespace Go.Proofs.YtfiefdkgneilkaaGreat.hostRefused
open Go

def pL_dead : List (List (SB × Bool)) := []
def pL_tree : R := (.done (.bool (.lit .true)) ⟨.nil, 0, ⟨[], [], []⟩⟩)
set_option maxRecDepth 1000000 in
theorem pL_run : evCall Tryz.prog plans sumsH 100000 10 [.int .i64 (.var 0), .bool (.cmp .neq (.var 1) (.lit (.ofNat 0)))] (s0 [] [[(.negSucc 9223372036854775807), (.ofNat 0)]] [((.negSucc 9223372036854775807), (.ofNat 0)), ((.ofNat 0), (.ofNat 1))]) finK = pL_tree := by kernel_rfl
set_option maxRecDepth 1000000 in
theorem pL_ok : okTree pL_tree true [] pL_dead = true := by kernel_rfl
theorem pL_any (a0 : Int) (h0 : (-9223372036854775808) ≤ a0 ∧ a0 ≤ 0) (b1 : Bool) (w : World) : Calls Tryz.prog 10 #[.int .i64 a0, .bool b1] w fun e w' => e = .returned (.bool true) ∧ Kp [] w w' :=
  run_bool (ds := pL_dead) follows_mixed plans_ok sumsH_ok pL_run pL_ok (fun i => if i = 0 then a0 else if i = 1 then (if b1 then 1 else 0) else 0) (fun x hx => by cases hx) (rgOk_cons ⟨h0.1, h0.2⟩ (rgOk_cons (by show (0 : Int) ≤ (if b1 then 1 else 0) ∧ (if b1 then 1 else 0) ≤ (1 : Int); cases b1 <;> decide) (rgOk_nil))) (fun d hd => by simp [pL_dead] at hd) (xs := [.int .i64 a0, .bool b1]) (by cases b1 <;> rfl) w

end Go.Proofs.YtfiefdkgneilkaaGreat.hostRefused

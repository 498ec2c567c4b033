/-
  HostOfNothing: runs, A.
-/
import Derived.Test.YtfiefdkgneilkaaGreatK19
import Derived.Test.YtfiefdkgneilkaaGreatSxw
import Derived.Test.YtfiefdkgneilkaaGreatRs
import Derived.Test.YtfiefdkgneilkaaGreatPlsOk
set_option linter.unusedVariables false
set_option linter.unusedSimpArgs false
namespace Go.Proofs.YtfiefdkgneilkaaGreat.hostOfNothing
open Go

def pA_dead : List (List (SB × Bool)) := []
def pA_tree : R := (.fork (.cmp .lss (.lit (.ofNat 30000)) (.var 0)) (.done (.bool (.lit .true)) ⟨.nil, 0, ⟨[((.cmp .lss (.lit (.ofNat 30000)) (.var 0)), true)], [], []⟩⟩) (.fork (.cmp .lss (.lit (.ofNat 30000)) (.var 5)) (.done (.bool (.lit .true)) ⟨.nil, 0, ⟨[((.cmp .lss (.lit (.ofNat 30000)) (.var 5)), true), ((.cmp .lss (.lit (.ofNat 30000)) (.var 0)), false)], [], []⟩⟩) (.done (.bool (.lit .true)) ⟨.nil, 0, ⟨[((.cmp .lss (.lit (.ofNat 30000)) (.var 5)), false), ((.cmp .lss (.lit (.ofNat 30000)) (.var 0)), false)], [], []⟩⟩)))
set_option maxRecDepth 1000000 in
theorem pA_run (p0 : Option Addr) (c0 : Nat) (p5 : Option Addr) (c5 : Nat) : evCall Tryz.prog plans sumsK19 100000 12 [.osl p0 0 c0, .agg [.int .u32 (.var 1), .int .i64 (.var 2), .int .u32 (.var 3), .int .i64 (.var 4), .osl p5 5 c5], .int .i64 (.var 6)] (s0 [] [[(.ofNat 0), (.ofNat 0), (.negSucc 9223372036854775807), (.ofNat 0), (.negSucc 9223372036854775807), (.ofNat 0), (.negSucc 9223372036854775807)], [(.ofNat 30001), (.ofNat 0), (.negSucc 9223372036854775807), (.ofNat 0), (.negSucc 9223372036854775807), (.ofNat 0), (.negSucc 9223372036854775807)], [(.ofNat 6), (.ofNat 0), (.negSucc 9223372036854775807), (.ofNat 0), (.negSucc 9223372036854775807), (.ofNat 917504), (.negSucc 9223372036854775807)]] [((.ofNat 0), (.ofNat 9223372036854775807)), ((.ofNat 0), (.ofNat 4294967295)), ((.negSucc 9223372036854775807), (.ofNat 9223372036854775807)), ((.ofNat 0), (.ofNat 4294967295)), ((.negSucc 9223372036854775807), (.ofNat 9223372036854775807)), ((.ofNat 0), (.ofNat 9223372036854775807)), ((.negSucc 9223372036854775807), (.ofNat 9223372036854775807))]) finK = pA_tree := by kernel_rfl
set_option maxRecDepth 1000000 in
theorem pA_ok : okTree pA_tree true [] pA_dead = true := by kernel_rfl
theorem pA_any (p0 : Option Addr) (n0 c0 : Nat) (h0 : (n0 : Int) ≤ 9223372036854775807) (a1 : Int) (h1 : 0 ≤ a1 ∧ a1 ≤ 4294967295) (a2 : Int) (h2 : (-9223372036854775808) ≤ a2 ∧ a2 ≤ 9223372036854775807) (a3 : Int) (h3 : 0 ≤ a3 ∧ a3 ≤ 4294967295) (a4 : Int) (h4 : (-9223372036854775808) ≤ a4 ∧ a4 ≤ 9223372036854775807) (p5 : Option Addr) (n5 c5 : Nat) (h5 : (n5 : Int) ≤ 9223372036854775807) (a6 : Int) (h6 : (-9223372036854775808) ≤ a6 ∧ a6 ≤ 9223372036854775807) (w : World) : Calls Tryz.prog 12 #[.slice p0 n0 c0, .agg #[.int .u32 a1, .int .i64 a2, .int .u32 a3, .int .i64 a4, .slice p5 n5 c5], .int .i64 a6] w fun e w' => e = .returned (.bool true) ∧ Kp [] w w' := by
  exact run_bool (ds := pA_dead) follows_mixed plans_ok sumsK19_ok (pA_run p0 c0 p5 c5) pA_ok (fun i => if i = 0 then (n0 : Int) else if i = 1 then a1 else if i = 2 then a2 else if i = 3 then a3 else if i = 4 then a4 else if i = 5 then (n5 : Int) else if i = 6 then a6 else 0) (fun x hx => by cases hx) (rgOk_cons (⟨Int.natCast_nonneg n0, h0⟩) (rgOk_cons (⟨h1.1, h1.2⟩) (rgOk_cons (⟨h2.1, h2.2⟩) (rgOk_cons (⟨h3.1, h3.2⟩) (rgOk_cons (⟨h4.1, h4.2⟩) (rgOk_cons (⟨Int.natCast_nonneg n5, h5⟩) (rgOk_cons (⟨h6.1, h6.2⟩) (rgOk_nil)))))))) (fun d hd => by simp [pA_dead] at hd) (xs := [.slice p0 n0 c0, .agg #[.int .u32 a1, .int .i64 a2, .int .u32 a3, .int .i64 a4, .slice p5 n5 c5], .int .i64 a6]) (by rfl) w

end Go.Proofs.YtfiefdkgneilkaaGreat.hostOfNothing

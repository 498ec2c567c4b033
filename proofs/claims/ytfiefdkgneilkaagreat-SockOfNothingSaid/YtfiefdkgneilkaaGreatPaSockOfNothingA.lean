/-
  SockOfNothing: runs, A.
-/
import Derived.Test.YtfiefdkgneilkaaGreatK20
import Derived.Test.YtfiefdkgneilkaaGreatSxw
import Derived.Test.YtfiefdkgneilkaaGreatRs
import Derived.Test.YtfiefdkgneilkaaGreatPlsOk
set_option linter.unusedVariables false
set_option linter.unusedSimpArgs false
namespace Go.Proofs.YtfiefdkgneilkaaGreat.sockOfNothing
open Go

def pA_dead : List (List (SB × Bool)) := []
def pA_tree : R := (.fork (.cmp .lss (.lit (.ofNat 40000)) (.bin .add .i64 (.var 9) (.var 6))) (.done (.bool (.lit .true)) ⟨.nil, 0, ⟨[((.cmp .lss (.lit (.ofNat 40000)) (.bin .add .i64 (.var 9) (.var 6))), true)], [], []⟩⟩) (.done (.bool (.lit .true)) ⟨.nil, 0, ⟨[((.cmp .lss (.lit (.ofNat 40000)) (.bin .add .i64 (.var 9) (.var 6))), false)], [], []⟩⟩))
set_option maxRecDepth 1000000 in
theorem pA_run (p6 : Option Addr) (c6 : Nat) (p9 : Option Addr) (c9 : Nat) : evCall Tryz.prog plans sumsK20 100000 15 [.agg [.int .i64 (.var 0), .int .i64 (.var 1), .int .i64 (.var 2), .int .u32 (.var 3), .int .i64 (.var 4), .int .i64 (.var 5), .osl p6 6 c6, .int .i64 (.var 7), .int .i64 (.var 8)], .osl p9 9 c9] (s0 [] [[(.negSucc 9223372036854775807), (.negSucc 9223372036854775807), (.negSucc 9223372036854775807), (.ofNat 0), (.negSucc 9223372036854775807), (.negSucc 9223372036854775807), (.ofNat 0), (.negSucc 9223372036854775807), (.negSucc 9223372036854775807), (.ofNat 0)], [(.negSucc 9223372036854775807), (.negSucc 9223372036854775807), (.negSucc 9223372036854775807), (.ofNat 0), (.negSucc 9223372036854775807), (.negSucc 9223372036854775807), (.ofNat 0), (.negSucc 9223372036854775807), (.negSucc 9223372036854775807), (.ofNat 40001)]] [((.negSucc 9223372036854775807), (.ofNat 9223372036854775807)), ((.negSucc 9223372036854775807), (.ofNat 9223372036854775807)), ((.negSucc 9223372036854775807), (.ofNat 9223372036854775807)), ((.ofNat 0), (.ofNat 4294967295)), ((.negSucc 9223372036854775807), (.ofNat 9223372036854775807)), ((.negSucc 9223372036854775807), (.ofNat 9223372036854775807)), ((.ofNat 0), (.ofNat 9223372036854775807)), ((.negSucc 9223372036854775807), (.ofNat 9223372036854775807)), ((.negSucc 9223372036854775807), (.ofNat 9223372036854775807)), ((.ofNat 0), (.ofNat 9223372036854775807))]) finK = pA_tree := by kernel_rfl
set_option maxRecDepth 1000000 in
theorem pA_ok : okTree pA_tree true [] pA_dead = true := by kernel_rfl
theorem pA_any (a0 : Int) (h0 : (-9223372036854775808) ≤ a0 ∧ a0 ≤ 9223372036854775807) (a1 : Int) (h1 : (-9223372036854775808) ≤ a1 ∧ a1 ≤ 9223372036854775807) (a2 : Int) (h2 : (-9223372036854775808) ≤ a2 ∧ a2 ≤ 9223372036854775807) (a3 : Int) (h3 : 0 ≤ a3 ∧ a3 ≤ 4294967295) (a4 : Int) (h4 : (-9223372036854775808) ≤ a4 ∧ a4 ≤ 9223372036854775807) (a5 : Int) (h5 : (-9223372036854775808) ≤ a5 ∧ a5 ≤ 9223372036854775807) (p6 : Option Addr) (n6 c6 : Nat) (h6 : (n6 : Int) ≤ 9223372036854775807) (a7 : Int) (h7 : (-9223372036854775808) ≤ a7 ∧ a7 ≤ 9223372036854775807) (a8 : Int) (h8 : (-9223372036854775808) ≤ a8 ∧ a8 ≤ 9223372036854775807) (p9 : Option Addr) (n9 c9 : Nat) (h9 : (n9 : Int) ≤ 9223372036854775807) (w : World) : Calls Tryz.prog 15 #[.agg #[.int .i64 a0, .int .i64 a1, .int .i64 a2, .int .u32 a3, .int .i64 a4, .int .i64 a5, .slice p6 n6 c6, .int .i64 a7, .int .i64 a8], .slice p9 n9 c9] w fun e w' => e = .returned (.bool true) ∧ Kp [] w w' := by
  exact run_bool (ds := pA_dead) follows_mixed plans_ok sumsK20_ok (pA_run p6 c6 p9 c9) pA_ok (fun i => if i = 0 then a0 else if i = 1 then a1 else if i = 2 then a2 else if i = 3 then a3 else if i = 4 then a4 else if i = 5 then a5 else if i = 6 then (n6 : Int) else if i = 7 then a7 else if i = 8 then a8 else if i = 9 then (n9 : Int) else 0) (fun x hx => by cases hx) (rgOk_cons (⟨h0.1, h0.2⟩) (rgOk_cons (⟨h1.1, h1.2⟩) (rgOk_cons (⟨h2.1, h2.2⟩) (rgOk_cons (⟨h3.1, h3.2⟩) (rgOk_cons (⟨h4.1, h4.2⟩) (rgOk_cons (⟨h5.1, h5.2⟩) (rgOk_cons (⟨Int.natCast_nonneg n6, h6⟩) (rgOk_cons (⟨h7.1, h7.2⟩) (rgOk_cons (⟨h8.1, h8.2⟩) (rgOk_cons (⟨Int.natCast_nonneg n9, h9⟩) (rgOk_nil))))))))))) (fun d hd => by simp [pA_dead] at hd) (xs := [.agg #[.int .i64 a0, .int .i64 a1, .int .i64 a2, .int .u32 a3, .int .i64 a4, .int .i64 a5, .slice p6 n6 c6, .int .i64 a7, .int .i64 a8], .slice p9 n9 c9]) (by rfl) w

end Go.Proofs.YtfiefdkgneilkaaGreat.sockOfNothing

/-
  HostLost: runs, B.
-/
import Derived.Test.YtfiefdkgneilkaaGreatK19
import Derived.Test.YtfiefdkgneilkaaGreatRs
import Derived.Test.YtfiefdkgneilkaaGreatPlsOk
set_option linter.unusedVariables false
set_option linter.unusedSimpArgs false
namespace Go.Proofs.YtfiefdkgneilkaaGreat.hostLost
open Go

def pB_dead : List (List (SB × Bool)) := []
def pB_tree : R := (.fork (.cmp .eql (.bin .sub .i64 (.lit (.ofNat 65535)) (.fold (.bin .add .i64 (.bin .add .i64 (.bin .add .i64 (.bin .add .i64 (.bin .add .i64 (.bin .shl .i64 (.conv .u8 (.bin .shr .u32 (.var 0) (.lit (.ofNat 24)))) (.lit (.ofNat 8))) (.lit (.ofNat 2561))) (.bin .shl .i64 (.conv .u8 (.bin .shr .u32 (.var 0) (.lit (.ofNat 16)))) (.lit (.ofNat 0)))) (.bin .shl .i64 (.conv .u8 (.bin .shr .u32 (.var 0) (.lit (.ofNat 8)))) (.lit (.ofNat 8)))) (.bin .shl .i64 (.conv .u8 (.var 0)) (.lit (.ofNat 0)))) (.lit (.ofNat 30766))))) (.lit (.ofNat 0))) (.done (.bool (.lit .true)) ⟨.nil, 0, ⟨[((.cmp .eql (.bin .sub .i64 (.lit (.ofNat 65535)) (.fold (.bin .add .i64 (.bin .add .i64 (.bin .add .i64 (.bin .add .i64 (.bin .add .i64 (.bin .shl .i64 (.conv .u8 (.bin .shr .u32 (.var 0) (.lit (.ofNat 24)))) (.lit (.ofNat 8))) (.lit (.ofNat 2561))) (.bin .shl .i64 (.conv .u8 (.bin .shr .u32 (.var 0) (.lit (.ofNat 16)))) (.lit (.ofNat 0)))) (.bin .shl .i64 (.conv .u8 (.bin .shr .u32 (.var 0) (.lit (.ofNat 8)))) (.lit (.ofNat 8)))) (.bin .shl .i64 (.conv .u8 (.var 0)) (.lit (.ofNat 0)))) (.lit (.ofNat 30766))))) (.lit (.ofNat 0))), true)], [], []⟩⟩) (.done (.bool (.lit .true)) ⟨.nil, 0, ⟨[((.cmp .eql (.bin .sub .i64 (.lit (.ofNat 65535)) (.fold (.bin .add .i64 (.bin .add .i64 (.bin .add .i64 (.bin .add .i64 (.bin .add .i64 (.bin .shl .i64 (.conv .u8 (.bin .shr .u32 (.var 0) (.lit (.ofNat 24)))) (.lit (.ofNat 8))) (.lit (.ofNat 2561))) (.bin .shl .i64 (.conv .u8 (.bin .shr .u32 (.var 0) (.lit (.ofNat 16)))) (.lit (.ofNat 0)))) (.bin .shl .i64 (.conv .u8 (.bin .shr .u32 (.var 0) (.lit (.ofNat 8)))) (.lit (.ofNat 8)))) (.bin .shl .i64 (.conv .u8 (.var 0)) (.lit (.ofNat 0)))) (.lit (.ofNat 30766))))) (.lit (.ofNat 0))), false)], [], []⟩⟩))
set_option maxRecDepth 1000000 in
theorem pB_run : evCall Tryz.prog plans sumsK19 100000 11 [.int .u32 (.var 0)] (s0 [] [[]] [((.ofNat 167772288), (.ofNat 167772414))]) finK = pB_tree := by kernel_rfl
set_option maxRecDepth 1000000 in
theorem pB_ok : okTree pB_tree true [] pB_dead = true := by kernel_rfl
theorem pB_any (a0 : Int) (h0 : 167772288 ≤ a0 ∧ a0 ≤ 167772414) (w : World) : Calls Tryz.prog 11 #[.int .u32 a0] w fun e w' => e = .returned (.bool true) ∧ Kp [] w w' := by
  exact run_bool (ds := pB_dead) follows_mixed plans_ok sumsK19_ok (pB_run) pB_ok (fun i => if i = 0 then a0 else 0) (fun x hx => by cases hx) (rgOk_cons (⟨h0.1, h0.2⟩) (rgOk_nil)) (fun d hd => by simp [pB_dead] at hd) (xs := [.int .u32 a0]) (by rfl) w

end Go.Proofs.YtfiefdkgneilkaaGreat.hostLost

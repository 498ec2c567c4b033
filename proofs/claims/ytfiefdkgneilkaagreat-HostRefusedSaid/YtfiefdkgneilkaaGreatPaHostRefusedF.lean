/-
  HostRefused: a run, F.
-/
import Derived.Test.YtfiefdkgneilkaaGreatSxw
import Derived.Test.YtfiefdkgneilkaaGreatRs
import Derived.Test.YtfiefdkgneilkaaGreatPlsOk
set_option linter.unusedVariables false
set_option linter.unusedSimpArgs false
namespace Go.Proofs.YtfiefdkgneilkaaGreat.hostRefused
open Go

def pF_dead : List (List (SB × Bool)) := []
def pF_tree : R := (.fork (.cmp .eql (.bin .sub .i64 (.lit (.ofNat 65535)) (.fold (.bin .add .i64 (.bin .add .i64 (.bin .add .i64 (.bin .shl .i64 (.conv .u8 (.bin .shr .u32 (.conv .u32 (.var 0)) (.lit (.ofNat 8)))) (.lit (.ofNat 8))) (.lit (.ofNat 5248))) (.bin .shl .i64 (.conv .u8 (.var 0)) (.lit (.ofNat 0)))) (.lit (.ofNat 30729))))) (.lit (.ofNat 0))) (.done (.bool (.lit .true)) ⟨.nil, 0, ⟨[((.cmp .eql (.bin .sub .i64 (.lit (.ofNat 65535)) (.fold (.bin .add .i64 (.bin .add .i64 (.bin .add .i64 (.bin .shl .i64 (.conv .u8 (.bin .shr .u32 (.conv .u32 (.var 0)) (.lit (.ofNat 8)))) (.lit (.ofNat 8))) (.lit (.ofNat 5248))) (.bin .shl .i64 (.conv .u8 (.var 0)) (.lit (.ofNat 0)))) (.lit (.ofNat 30729))))) (.lit (.ofNat 0))), true)], [], []⟩⟩) (.done (.bool (.lit .true)) ⟨.nil, 0, ⟨[((.cmp .eql (.bin .sub .i64 (.lit (.ofNat 65535)) (.fold (.bin .add .i64 (.bin .add .i64 (.bin .add .i64 (.bin .shl .i64 (.conv .u8 (.bin .shr .u32 (.conv .u32 (.var 0)) (.lit (.ofNat 8)))) (.lit (.ofNat 8))) (.lit (.ofNat 5248))) (.bin .shl .i64 (.conv .u8 (.var 0)) (.lit (.ofNat 0)))) (.lit (.ofNat 30729))))) (.lit (.ofNat 0))), false)], [], []⟩⟩))
set_option maxRecDepth 1000000 in
theorem pF_run : evCall Tryz.prog plans sumsH 100000 10 [.int .i64 (.var 0), .bool (.lit false)] (s0 [] [[(.ofNat 1), (.ofNat 0)], [(.ofNat 29558), (.ofNat 0)]] [((.ofNat 1), (.ofNat 65535)), ((.ofNat 0), (.ofNat 1))]) finK = pF_tree := by kernel_rfl
set_option maxRecDepth 1000000 in
theorem pF_ok : okTree pF_tree true [] pF_dead = true := by kernel_rfl
theorem pF_any (a0 : Int) (h0 : 1 ≤ a0 ∧ a0 ≤ 65535) (w : World) : Calls Tryz.prog 10 #[.int .i64 a0, .bool false] w fun e w' => e = .returned (.bool true) ∧ Kp [] w w' :=
  run_bool (ds := pF_dead) follows_mixed plans_ok sumsH_ok pF_run pF_ok (fun i => if i = 0 then a0 else if i = 1 then 0 else 0) (fun x hx => by cases hx) (rgOk_cons ⟨h0.1, h0.2⟩ (rgOk_cons (by show (0 : Int) ≤ 0 ∧ (0 : Int) ≤ 1; decide) (rgOk_nil))) (fun d hd => by simp [pF_dead] at hd) (xs := [.int .i64 a0, .bool false]) (by rfl) w

end Go.Proofs.YtfiefdkgneilkaaGreat.hostRefused

/-
  HostRefused: a run, T.
-/
import Derived.Test.YtfiefdkgneilkaaGreatSxw
import Derived.Test.YtfiefdkgneilkaaGreatRs
import Derived.Test.YtfiefdkgneilkaaGreatPlsOk
set_option linter.unusedVariables false
set_option linter.unusedSimpArgs false
namespace Go.Proofs.YtfiefdkgneilkaaGreat.hostRefused
open Go

def pT_dead : List (List (SB × Bool)) := []
def pT_tree : R := (.fork (.cmp .eql (.bin .sub .i64 (.lit (.ofNat 65535)) (.fold (.bin .add .i64 (.bin .add .i64 (.bin .add .i64 (.bin .shl .i64 (.conv .u8 (.bin .shr .u32 (.conv .u32 (.var 0)) (.lit (.ofNat 8)))) (.lit (.ofNat 8))) (.lit (.ofNat 5248))) (.bin .shl .i64 (.conv .u8 (.var 0)) (.lit (.ofNat 0)))) (.lit (.ofNat 30729))))) (.lit (.ofNat 0))) (.done (.bool (.lit .true)) ⟨.nil, 0, ⟨[((.cmp .eql (.bin .sub .i64 (.lit (.ofNat 65535)) (.fold (.bin .add .i64 (.bin .add .i64 (.bin .add .i64 (.bin .shl .i64 (.conv .u8 (.bin .shr .u32 (.conv .u32 (.var 0)) (.lit (.ofNat 8)))) (.lit (.ofNat 8))) (.lit (.ofNat 5248))) (.bin .shl .i64 (.conv .u8 (.var 0)) (.lit (.ofNat 0)))) (.lit (.ofNat 30729))))) (.lit (.ofNat 0))), true)], [], []⟩⟩) (.done (.bool (.lit .true)) ⟨.nil, 0, ⟨[((.cmp .eql (.bin .sub .i64 (.lit (.ofNat 65535)) (.fold (.bin .add .i64 (.bin .add .i64 (.bin .add .i64 (.bin .shl .i64 (.conv .u8 (.bin .shr .u32 (.conv .u32 (.var 0)) (.lit (.ofNat 8)))) (.lit (.ofNat 8))) (.lit (.ofNat 5248))) (.bin .shl .i64 (.conv .u8 (.var 0)) (.lit (.ofNat 0)))) (.lit (.ofNat 30729))))) (.lit (.ofNat 0))), false)], [], []⟩⟩))
set_option maxRecDepth 1000000 in
theorem pT_run : evCall Tryz.prog plans sumsH 100000 10 [.int .i64 (.var 0), .bool (.lit true)] (s0 [] [[(.ofNat 1), (.ofNat 0)], [(.ofNat 29558), (.ofNat 0)]] [((.ofNat 1), (.ofNat 65535)), ((.ofNat 0), (.ofNat 1))]) finK = pT_tree := by kernel_rfl
set_option maxRecDepth 1000000 in
theorem pT_ok : okTree pT_tree true [] pT_dead = true := by kernel_rfl
theorem pT_any (a0 : Int) (h0 : 1 ≤ a0 ∧ a0 ≤ 65535) (w : World) : Calls Tryz.prog 10 #[.int .i64 a0, .bool true] w fun e w' => e = .returned (.bool true) ∧ Kp [] w w' :=
  run_bool (ds := pT_dead) follows_mixed plans_ok sumsH_ok pT_run pT_ok (fun i => if i = 0 then a0 else if i = 1 then 0 else 0) (fun x hx => by cases hx) (rgOk_cons ⟨h0.1, h0.2⟩ (rgOk_cons (by show (0 : Int) ≤ 0 ∧ (0 : Int) ≤ 1; decide) (rgOk_nil))) (fun d hd => by simp [pT_dead] at hd) (xs := [.int .i64 a0, .bool true]) (by rfl) w

end Go.Proofs.YtfiefdkgneilkaaGreat.hostRefused

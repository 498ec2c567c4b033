/-
  HostGroups: runs, T.
-/
import Derived.Test.YtfiefdkgneilkaaGreatK19
import Derived.Test.YtfiefdkgneilkaaGreatRs
import Derived.Test.YtfiefdkgneilkaaGreatPlsOk
set_option linter.unusedVariables false
set_option linter.unusedSimpArgs false
namespace Go.Proofs.YtfiefdkgneilkaaGreat.hostGroups
open Go

def pT_dead : List (List (SB × Bool)) := []
def pT_tree : R := (.fork (.cmp .eql (.bin .sub .i64 (.lit (.ofNat 65535)) (.fold (.bin .add .i64 (.bin .add .i64 (.bin .add .i64 (.bin .add .i64 (.bin .add .i64 (.bin .add .i64 (.bin .add .i64 (.bin .add .i64 (.bin .shl .i64 (.conv .u8 (.bin .shr .u32 (.var 0) (.lit (.ofNat 24)))) (.lit (.ofNat 8))) (.lit (.ofNat 2561))) (.bin .shl .i64 (.conv .u8 (.bin .shr .u32 (.var 0) (.lit (.ofNat 16)))) (.lit (.ofNat 0)))) (.bin .shl .i64 (.conv .u8 (.bin .shr .u32 (.var 0) (.lit (.ofNat 8)))) (.lit (.ofNat 8)))) (.bin .shl .i64 (.conv .u8 (.var 0)) (.lit (.ofNat 0)))) (.lit (.ofNat 31))) (.bin .shl .i64 (.conv .u8 (.bin .shr .u32 (.var 2) (.lit (.ofNat 8)))) (.lit (.ofNat 8)))) (.bin .shl .i64 (.conv .u8 (.var 2)) (.lit (.ofNat 0)))) (.lit (.ofNat 30729))))) (.lit (.ofNat 0))) (.done (.bool (.lit .true)) ⟨.nil, 0, ⟨[((.cmp .eql (.bin .sub .i64 (.lit (.ofNat 65535)) (.fold (.bin .add .i64 (.bin .add .i64 (.bin .add .i64 (.bin .add .i64 (.bin .add .i64 (.bin .add .i64 (.bin .add .i64 (.bin .add .i64 (.bin .shl .i64 (.conv .u8 (.bin .shr .u32 (.var 0) (.lit (.ofNat 24)))) (.lit (.ofNat 8))) (.lit (.ofNat 2561))) (.bin .shl .i64 (.conv .u8 (.bin .shr .u32 (.var 0) (.lit (.ofNat 16)))) (.lit (.ofNat 0)))) (.bin .shl .i64 (.conv .u8 (.bin .shr .u32 (.var 0) (.lit (.ofNat 8)))) (.lit (.ofNat 8)))) (.bin .shl .i64 (.conv .u8 (.var 0)) (.lit (.ofNat 0)))) (.lit (.ofNat 31))) (.bin .shl .i64 (.conv .u8 (.bin .shr .u32 (.var 2) (.lit (.ofNat 8)))) (.lit (.ofNat 8)))) (.bin .shl .i64 (.conv .u8 (.var 2)) (.lit (.ofNat 0)))) (.lit (.ofNat 30729))))) (.lit (.ofNat 0))), true)], [], []⟩⟩) (.done (.bool (.lit .true)) ⟨.nil, 0, ⟨[((.cmp .eql (.bin .sub .i64 (.lit (.ofNat 65535)) (.fold (.bin .add .i64 (.bin .add .i64 (.bin .add .i64 (.bin .add .i64 (.bin .add .i64 (.bin .add .i64 (.bin .add .i64 (.bin .add .i64 (.bin .shl .i64 (.conv .u8 (.bin .shr .u32 (.var 0) (.lit (.ofNat 24)))) (.lit (.ofNat 8))) (.lit (.ofNat 2561))) (.bin .shl .i64 (.conv .u8 (.bin .shr .u32 (.var 0) (.lit (.ofNat 16)))) (.lit (.ofNat 0)))) (.bin .shl .i64 (.conv .u8 (.bin .shr .u32 (.var 0) (.lit (.ofNat 8)))) (.lit (.ofNat 8)))) (.bin .shl .i64 (.conv .u8 (.var 0)) (.lit (.ofNat 0)))) (.lit (.ofNat 31))) (.bin .shl .i64 (.conv .u8 (.bin .shr .u32 (.var 2) (.lit (.ofNat 8)))) (.lit (.ofNat 8)))) (.bin .shl .i64 (.conv .u8 (.var 2)) (.lit (.ofNat 0)))) (.lit (.ofNat 30729))))) (.lit (.ofNat 0))), false)], [], []⟩⟩))
set_option maxRecDepth 1000000 in
theorem pT_run : evCall Tryz.prog plans sumsK19 100000 9 [.int .u32 (.var 0), .bool (.lit true), .int .i64 (.var 2)] (s0 [] [[]] [((.ofNat 3758096386), (.ofNat 4026531839)), ((.ofNat 0), (.ofNat 1)), ((.ofNat 1), (.ofNat 65535))]) finK = pT_tree := by kernel_rfl
set_option maxRecDepth 1000000 in
theorem pT_ok : okTree pT_tree true [] pT_dead = true := by kernel_rfl
theorem pT_any (a0 : Int) (h0 : 3758096386 ≤ a0 ∧ a0 ≤ 4026531839) (a2 : Int) (h2 : 1 ≤ a2 ∧ a2 ≤ 65535) (w : World) : Calls Tryz.prog 9 #[.int .u32 a0, .bool true, .int .i64 a2] w fun e w' => e = .returned (.bool true) ∧ Kp [] w w' := by
  exact run_bool (ds := pT_dead) follows_mixed plans_ok sumsK19_ok (pT_run) pT_ok (fun i => if i = 0 then a0 else if i = 1 then 0 else if i = 2 then a2 else 0) (fun x hx => by cases hx) (rgOk_cons (⟨h0.1, h0.2⟩) (rgOk_cons ((by show (0 : Int) ≤ 0 ∧ (0 : Int) ≤ 1; decide)) (rgOk_cons (⟨h2.1, h2.2⟩) (rgOk_nil)))) (fun d hd => by simp [pT_dead] at hd) (xs := [.int .u32 a0, .bool true, .int .i64 a2]) (by rfl) w

end Go.Proofs.YtfiefdkgneilkaaGreat.hostGroups

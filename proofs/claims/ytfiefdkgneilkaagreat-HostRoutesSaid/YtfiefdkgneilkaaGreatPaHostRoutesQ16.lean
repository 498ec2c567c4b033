/-
  HostRoutes: runs, F23, F24, N.
-/
import Derived.Test.YtfiefdkgneilkaaGreatSxw
import Derived.Test.YtfiefdkgneilkaaGreatRs
import Derived.Test.YtfiefdkgneilkaaGreatPlsOk
set_option linter.unusedVariables false
set_option linter.unusedSimpArgs false
namespace Go.Proofs.YtfiefdkgneilkaaGreat.hostRoutes
open Go

def pF23_dead : List (List (SB × Bool)) := []
def pF23_tree : R := (.fork (.cmp .eql (.bin .sub .i64 (.lit (.ofNat 65535)) (.fold (.bin .add .i64 (.bin .add .i64 (.bin .add .i64 (.bin .add .i64 (.bin .add .i64 (.bin .shl .i64 (.conv .u8 (.bin .shr .u32 (.var 0) (.lit (.ofNat 24)))) (.lit (.ofNat 8))) (.lit (.ofNat 2561))) (.bin .shl .i64 (.conv .u8 (.bin .shr .u32 (.var 0) (.lit (.ofNat 16)))) (.lit (.ofNat 0)))) (.bin .shl .i64 (.conv .u8 (.bin .shr .u32 (.var 0) (.lit (.ofNat 8)))) (.lit (.ofNat 8)))) (.bin .shl .i64 (.conv .u8 (.var 0)) (.lit (.ofNat 0)))) (.lit (.ofNat 30766))))) (.lit (.ofNat 0))) (.done (.bool (.lit .true)) ⟨.nil, 0, ⟨[((.cmp .eql (.bin .sub .i64 (.lit (.ofNat 65535)) (.fold (.bin .add .i64 (.bin .add .i64 (.bin .add .i64 (.bin .add .i64 (.bin .add .i64 (.bin .shl .i64 (.conv .u8 (.bin .shr .u32 (.var 0) (.lit (.ofNat 24)))) (.lit (.ofNat 8))) (.lit (.ofNat 2561))) (.bin .shl .i64 (.conv .u8 (.bin .shr .u32 (.var 0) (.lit (.ofNat 16)))) (.lit (.ofNat 0)))) (.bin .shl .i64 (.conv .u8 (.bin .shr .u32 (.var 0) (.lit (.ofNat 8)))) (.lit (.ofNat 8)))) (.bin .shl .i64 (.conv .u8 (.var 0)) (.lit (.ofNat 0)))) (.lit (.ofNat 30766))))) (.lit (.ofNat 0))), true)], [], []⟩⟩) (.done (.bool (.lit .true)) ⟨.nil, 0, ⟨[((.cmp .eql (.bin .sub .i64 (.lit (.ofNat 65535)) (.fold (.bin .add .i64 (.bin .add .i64 (.bin .add .i64 (.bin .add .i64 (.bin .add .i64 (.bin .shl .i64 (.conv .u8 (.bin .shr .u32 (.var 0) (.lit (.ofNat 24)))) (.lit (.ofNat 8))) (.lit (.ofNat 2561))) (.bin .shl .i64 (.conv .u8 (.bin .shr .u32 (.var 0) (.lit (.ofNat 16)))) (.lit (.ofNat 0)))) (.bin .shl .i64 (.conv .u8 (.bin .shr .u32 (.var 0) (.lit (.ofNat 8)))) (.lit (.ofNat 8)))) (.bin .shl .i64 (.conv .u8 (.var 0)) (.lit (.ofNat 0)))) (.lit (.ofNat 30766))))) (.lit (.ofNat 0))), false)], [], []⟩⟩))
set_option maxRecDepth 1000000 in
theorem pF23_run : evCall Tryz.prog plans sumsH 100000 7 [.int .u32 (.var 0), .bool (.lit false)] (s0 [] [[]] [((.ofNat 167772416), (.ofNat 167772671)), ((.ofNat 0), (.ofNat 1))]) finK = pF23_tree := by kernel_rfl
set_option maxRecDepth 1000000 in
theorem pF23_ok : okTree pF23_tree true [] pF23_dead = true := by kernel_rfl
theorem pF23_any (a0 : Int) (h0 : 167772416 ≤ a0 ∧ a0 ≤ 167772671) (w : World) : Calls Tryz.prog 7 #[.int .u32 a0, .bool false] w fun e w' => e = .returned (.bool true) ∧ Kp [] w w' := by
  exact run_bool (ds := pF23_dead) follows_mixed plans_ok sumsH_ok pF23_run pF23_ok (fun i => if i = 0 then a0 else if i = 1 then 0 else 0) (fun x hx => by cases hx) (rgOk_cons ⟨h0.1, h0.2⟩ (rgOk_cons (by show (0 : Int) ≤ 0 ∧ (0 : Int) ≤ 1; decide) (rgOk_nil))) (fun d hd => by simp [pF23_dead] at hd) (xs := [.int .u32 a0, .bool false]) (by rfl) w

def pF24_dead : List (List (SB × Bool)) := []
def pF24_tree : R := (.done (.bool (.lit .true)) ⟨.nil, 0, ⟨[], [], []⟩⟩)
set_option maxRecDepth 1000000 in
theorem pF24_run : evCall Tryz.prog plans sumsH 100000 7 [.int .u32 (.lit (.ofNat 0)), .bool (.lit false)] (s0 [] [[]] [((.ofNat 0), (.ofNat 0)), ((.ofNat 0), (.ofNat 1))]) finK = pF24_tree := by kernel_rfl
set_option maxRecDepth 1000000 in
theorem pF24_ok : okTree pF24_tree true [] pF24_dead = true := by kernel_rfl
theorem pF24_any (a0 : Int) (h0 : 0 ≤ a0 ∧ a0 ≤ 0) (w : World) : Calls Tryz.prog 7 #[.int .u32 a0, .bool false] w fun e w' => e = .returned (.bool true) ∧ Kp [] w w' := by
  obtain rfl : a0 = 0 := by omega
  exact run_bool (ds := pF24_dead) follows_mixed plans_ok sumsH_ok pF24_run pF24_ok (fun i => if i = 0 then 0 else if i = 1 then 0 else 0) (fun x hx => by cases hx) (rgOk_cons ⟨Int.le_refl _, Int.le_refl _⟩ (rgOk_cons (by show (0 : Int) ≤ 0 ∧ (0 : Int) ≤ 1; decide) (rgOk_nil))) (fun d hd => by simp [pF24_dead] at hd) (xs := [.int .u32 0, .bool false]) (by rfl) w

def pN_dead : List (List (SB × Bool)) := []
def pN_tree : R := (.done (.bool (.lit .true)) ⟨.nil, 0, ⟨[], [], []⟩⟩)
set_option maxRecDepth 1000000 in
theorem pN_run : evCall Tryz.prog plans sumsH 100000 7 [.int .u32 (.var 0), .bool (.cmp .neq (.var 1) (.lit (.ofNat 0)))] (s0 [] [[(.ofNat 167772160), (.ofNat 0)]] [((.ofNat 167772160), (.ofNat 167772415)), ((.ofNat 0), (.ofNat 1))]) finK = pN_tree := by kernel_rfl
set_option maxRecDepth 1000000 in
theorem pN_ok : okTree pN_tree true [] pN_dead = true := by kernel_rfl
theorem pN_any (a0 : Int) (h0 : 167772160 ≤ a0 ∧ a0 ≤ 167772415) (b1 : Bool) (w : World) : Calls Tryz.prog 7 #[.int .u32 a0, .bool b1] w fun e w' => e = .returned (.bool true) ∧ Kp [] w w' := by
  exact run_bool (ds := pN_dead) follows_mixed plans_ok sumsH_ok pN_run pN_ok (fun i => if i = 0 then a0 else if i = 1 then (if b1 then 1 else 0) else 0) (fun x hx => by cases hx) (rgOk_cons ⟨h0.1, h0.2⟩ (rgOk_cons (by show (0 : Int) ≤ (if b1 then 1 else 0) ∧ (if b1 then 1 else 0) ≤ (1 : Int); cases b1 <;> decide) (rgOk_nil))) (fun d hd => by simp [pN_dead] at hd) (xs := [.int .u32 a0, .bool b1]) (by cases b1 <;> rfl) w

end Go.Proofs.YtfiefdkgneilkaaGreat.hostRoutes

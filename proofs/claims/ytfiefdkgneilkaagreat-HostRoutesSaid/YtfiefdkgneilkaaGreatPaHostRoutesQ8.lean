/-
  HostRoutes: runs, T24, F0, F1.
-/
import Derived.Test.YtfiefdkgneilkaaGreatSxw
import Derived.Test.YtfiefdkgneilkaaGreatRs
import Derived.Test.YtfiefdkgneilkaaGreatPlsOk
set_option linter.unusedVariables false
set_option linter.unusedSimpArgs false
namespace Go.Proofs.YtfiefdkgneilkaaGreat.hostRoutes
open Go

def pT24_dead : List (List (SB × Bool)) := []
def pT24_tree : R := (.done (.bool (.lit .true)) ⟨.nil, 0, ⟨[], [], []⟩⟩)
set_option maxRecDepth 1000000 in
theorem pT24_run : evCall Tryz.prog plans sumsH 100000 7 [.int .u32 (.lit (.ofNat 0)), .bool (.lit true)] (s0 [] [[]] [((.ofNat 0), (.ofNat 0)), ((.ofNat 0), (.ofNat 1))]) finK = pT24_tree := by kernel_rfl
set_option maxRecDepth 1000000 in
theorem pT24_ok : okTree pT24_tree true [] pT24_dead = true := by kernel_rfl
theorem pT24_any (a0 : Int) (h0 : 0 ≤ a0 ∧ a0 ≤ 0) (w : World) : Calls Tryz.prog 7 #[.int .u32 a0, .bool true] w fun e w' => e = .returned (.bool true) ∧ Kp [] w w' := by
  obtain rfl : a0 = 0 := by omega
  exact run_bool (ds := pT24_dead) follows_mixed plans_ok sumsH_ok pT24_run pT24_ok (fun i => if i = 0 then 0 else if i = 1 then 0 else 0) (fun x hx => by cases hx) (rgOk_cons ⟨Int.le_refl _, Int.le_refl _⟩ (rgOk_cons (by show (0 : Int) ≤ 0 ∧ (0 : Int) ≤ 1; decide) (rgOk_nil))) (fun d hd => by simp [pT24_dead] at hd) (xs := [.int .u32 0, .bool true]) (by rfl) w

def pF0_dead : List (List (SB × Bool)) := []
def pF0_tree : R := (.fork (.cmp .eql (.bin .sub .i64 (.lit (.ofNat 65535)) (.fold (.bin .add .i64 (.bin .add .i64 (.bin .add .i64 (.bin .add .i64 (.bin .add .i64 (.bin .shl .i64 (.conv .u8 (.bin .shr .u32 (.var 0) (.lit (.ofNat 24)))) (.lit (.ofNat 8))) (.lit (.ofNat 2561))) (.bin .shl .i64 (.conv .u8 (.bin .shr .u32 (.var 0) (.lit (.ofNat 16)))) (.lit (.ofNat 0)))) (.bin .shl .i64 (.conv .u8 (.bin .shr .u32 (.var 0) (.lit (.ofNat 8)))) (.lit (.ofNat 8)))) (.bin .shl .i64 (.conv .u8 (.var 0)) (.lit (.ofNat 0)))) (.lit (.ofNat 30766))))) (.lit (.ofNat 0))) (.done (.bool (.lit .true)) ⟨.nil, 0, ⟨[((.cmp .eql (.bin .sub .i64 (.lit (.ofNat 65535)) (.fold (.bin .add .i64 (.bin .add .i64 (.bin .add .i64 (.bin .add .i64 (.bin .add .i64 (.bin .shl .i64 (.conv .u8 (.bin .shr .u32 (.var 0) (.lit (.ofNat 24)))) (.lit (.ofNat 8))) (.lit (.ofNat 2561))) (.bin .shl .i64 (.conv .u8 (.bin .shr .u32 (.var 0) (.lit (.ofNat 16)))) (.lit (.ofNat 0)))) (.bin .shl .i64 (.conv .u8 (.bin .shr .u32 (.var 0) (.lit (.ofNat 8)))) (.lit (.ofNat 8)))) (.bin .shl .i64 (.conv .u8 (.var 0)) (.lit (.ofNat 0)))) (.lit (.ofNat 30766))))) (.lit (.ofNat 0))), true)], [], []⟩⟩) (.done (.bool (.lit .true)) ⟨.nil, 0, ⟨[((.cmp .eql (.bin .sub .i64 (.lit (.ofNat 65535)) (.fold (.bin .add .i64 (.bin .add .i64 (.bin .add .i64 (.bin .add .i64 (.bin .add .i64 (.bin .shl .i64 (.conv .u8 (.bin .shr .u32 (.var 0) (.lit (.ofNat 24)))) (.lit (.ofNat 8))) (.lit (.ofNat 2561))) (.bin .shl .i64 (.conv .u8 (.bin .shr .u32 (.var 0) (.lit (.ofNat 16)))) (.lit (.ofNat 0)))) (.bin .shl .i64 (.conv .u8 (.bin .shr .u32 (.var 0) (.lit (.ofNat 8)))) (.lit (.ofNat 8)))) (.bin .shl .i64 (.conv .u8 (.var 0)) (.lit (.ofNat 0)))) (.lit (.ofNat 30766))))) (.lit (.ofNat 0))), false)], [], []⟩⟩))
set_option maxRecDepth 1000000 in
theorem pF0_run : evCall Tryz.prog plans sumsH 100000 7 [.int .u32 (.var 0), .bool (.lit false)] (s0 [] [[]] [((.ofNat 2147483648), (.ofNat 3758096383)), ((.ofNat 0), (.ofNat 1))]) finK = pF0_tree := by kernel_rfl
set_option maxRecDepth 1000000 in
theorem pF0_ok : okTree pF0_tree true [] pF0_dead = true := by kernel_rfl
theorem pF0_any (a0 : Int) (h0 : 2147483648 ≤ a0 ∧ a0 ≤ 3758096383) (w : World) : Calls Tryz.prog 7 #[.int .u32 a0, .bool false] w fun e w' => e = .returned (.bool true) ∧ Kp [] w w' := by
  exact run_bool (ds := pF0_dead) follows_mixed plans_ok sumsH_ok pF0_run pF0_ok (fun i => if i = 0 then a0 else if i = 1 then 0 else 0) (fun x hx => by cases hx) (rgOk_cons ⟨h0.1, h0.2⟩ (rgOk_cons (by show (0 : Int) ≤ 0 ∧ (0 : Int) ≤ 1; decide) (rgOk_nil))) (fun d hd => by simp [pF0_dead] at hd) (xs := [.int .u32 a0, .bool false]) (by rfl) w

def pF1_dead : List (List (SB × Bool)) := []
def pF1_tree : R := (.fork (.cmp .eql (.bin .sub .i64 (.lit (.ofNat 65535)) (.fold (.bin .add .i64 (.bin .add .i64 (.bin .add .i64 (.bin .add .i64 (.bin .add .i64 (.bin .shl .i64 (.conv .u8 (.bin .shr .u32 (.var 0) (.lit (.ofNat 24)))) (.lit (.ofNat 8))) (.lit (.ofNat 2561))) (.bin .shl .i64 (.conv .u8 (.bin .shr .u32 (.var 0) (.lit (.ofNat 16)))) (.lit (.ofNat 0)))) (.bin .shl .i64 (.conv .u8 (.bin .shr .u32 (.var 0) (.lit (.ofNat 8)))) (.lit (.ofNat 8)))) (.bin .shl .i64 (.conv .u8 (.var 0)) (.lit (.ofNat 0)))) (.lit (.ofNat 30766))))) (.lit (.ofNat 0))) (.done (.bool (.lit .true)) ⟨.nil, 0, ⟨[((.cmp .eql (.bin .sub .i64 (.lit (.ofNat 65535)) (.fold (.bin .add .i64 (.bin .add .i64 (.bin .add .i64 (.bin .add .i64 (.bin .add .i64 (.bin .shl .i64 (.conv .u8 (.bin .shr .u32 (.var 0) (.lit (.ofNat 24)))) (.lit (.ofNat 8))) (.lit (.ofNat 2561))) (.bin .shl .i64 (.conv .u8 (.bin .shr .u32 (.var 0) (.lit (.ofNat 16)))) (.lit (.ofNat 0)))) (.bin .shl .i64 (.conv .u8 (.bin .shr .u32 (.var 0) (.lit (.ofNat 8)))) (.lit (.ofNat 8)))) (.bin .shl .i64 (.conv .u8 (.var 0)) (.lit (.ofNat 0)))) (.lit (.ofNat 30766))))) (.lit (.ofNat 0))), true)], [], []⟩⟩) (.done (.bool (.lit .true)) ⟨.nil, 0, ⟨[((.cmp .eql (.bin .sub .i64 (.lit (.ofNat 65535)) (.fold (.bin .add .i64 (.bin .add .i64 (.bin .add .i64 (.bin .add .i64 (.bin .add .i64 (.bin .shl .i64 (.conv .u8 (.bin .shr .u32 (.var 0) (.lit (.ofNat 24)))) (.lit (.ofNat 8))) (.lit (.ofNat 2561))) (.bin .shl .i64 (.conv .u8 (.bin .shr .u32 (.var 0) (.lit (.ofNat 16)))) (.lit (.ofNat 0)))) (.bin .shl .i64 (.conv .u8 (.bin .shr .u32 (.var 0) (.lit (.ofNat 8)))) (.lit (.ofNat 8)))) (.bin .shl .i64 (.conv .u8 (.var 0)) (.lit (.ofNat 0)))) (.lit (.ofNat 30766))))) (.lit (.ofNat 0))), false)], [], []⟩⟩))
set_option maxRecDepth 1000000 in
theorem pF1_run : evCall Tryz.prog plans sumsH 100000 7 [.int .u32 (.var 0), .bool (.lit false)] (s0 [] [[]] [((.ofNat 1073741824), (.ofNat 2147483647)), ((.ofNat 0), (.ofNat 1))]) finK = pF1_tree := by kernel_rfl
set_option maxRecDepth 1000000 in
theorem pF1_ok : okTree pF1_tree true [] pF1_dead = true := by kernel_rfl
theorem pF1_any (a0 : Int) (h0 : 1073741824 ≤ a0 ∧ a0 ≤ 2147483647) (w : World) : Calls Tryz.prog 7 #[.int .u32 a0, .bool false] w fun e w' => e = .returned (.bool true) ∧ Kp [] w w' := by
  exact run_bool (ds := pF1_dead) follows_mixed plans_ok sumsH_ok pF1_run pF1_ok (fun i => if i = 0 then a0 else if i = 1 then 0 else 0) (fun x hx => by cases hx) (rgOk_cons ⟨h0.1, h0.2⟩ (rgOk_cons (by show (0 : Int) ≤ 0 ∧ (0 : Int) ≤ 1; decide) (rgOk_nil))) (fun d hd => by simp [pF1_dead] at hd) (xs := [.int .u32 a0, .bool false]) (by rfl) w

end Go.Proofs.YtfiefdkgneilkaaGreat.hostRoutes

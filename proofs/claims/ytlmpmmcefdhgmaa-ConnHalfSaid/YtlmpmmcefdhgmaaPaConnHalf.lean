/-
  ConnHalf: runs.
-/
import Derived.Test.YtlmpmmcefdhgmaaSsf
import Derived.Test.YtlmpmmcefdhgmaaPlsOk
set_option linter.unusedVariables false
set_option linter.unusedSimpArgs false
namespace Go.Proofs.Ytlmpmmcefdhgmaa.connHalf
open Go

def pZ_dead : List (List (SB × Bool)) := []
noncomputable def pZ_tree : R := fillT endT []
set_option maxRecDepth 1000000 in
theorem pZ_run : evCall Try.prog plans sumsP 100000 5 [.raw (.slice none 0 0)] (s0 [] [[]] []) finK = pZ_tree := by kernel_rfl
set_option maxRecDepth 1000000 in
theorem pZ_ok : okTree pZ_tree true [] pZ_dead = true := by kernel_rfl

theorem pZ_any (w : World) : Calls Try.prog 5 #[.slice none 0 0] w fun e w' => e = .returned (.bool true) ∧ Kp [] w w' := by
  exact run_bool (ds := pZ_dead) follows_mixed plans_ok sumsP_ok (pZ_run) pZ_ok (fun _ => 0) (fun x hx => by cases hx) rgOk_nil (fun d hd => by simp [pZ_dead] at hd) (xs := [.slice none 0 0]) rfl w

def pE_dead : List (List (SB × Bool)) := []
noncomputable def pE_tree : R := fillT endT []
set_option maxRecDepth 1000000 in
theorem pE_run (p : Option Addr) : evCall Try.prog plans sumsP 100000 5 [.raw (.slice p 0 0)] (s0 [] [[]] []) finK = pE_tree := by kernel_rfl
set_option maxRecDepth 1000000 in
theorem pE_ok : okTree pE_tree true [] pE_dead = true := by kernel_rfl

theorem pE_any (p : Option Addr) (w : World) : Calls Try.prog 5 #[.slice p 0 0] w fun e w' => e = .returned (.bool true) ∧ Kp [] w w' := by
  exact run_bool (ds := pE_dead) follows_mixed plans_ok sumsP_ok (pE_run p) pE_ok (fun _ => 0) (fun x hx => by cases hx) rgOk_nil (fun d hd => by simp [pE_dead] at hd) (xs := [.slice p 0 0]) rfl w

def pN_dead : List (List (SB × Bool)) := []
noncomputable def pN_tree : R := fillT endT []
set_option maxRecDepth 1000000 in
theorem pN_run : evCall Try.prog plans sumsP 100000 5 [.fsl 32 zeroS zeroS (.var 32)] (s0 [] [[(.ofNat 0), (.ofNat 0), (.ofNat 0), (.ofNat 0), (.ofNat 0), (.ofNat 0), (.ofNat 0), (.ofNat 0), (.ofNat 0), (.ofNat 0), (.ofNat 0), (.ofNat 0), (.ofNat 0), (.ofNat 0), (.ofNat 0), (.ofNat 0), (.ofNat 0), (.ofNat 0), (.ofNat 0), (.ofNat 0), (.ofNat 0), (.ofNat 0), (.ofNat 0), (.ofNat 0), (.ofNat 0), (.ofNat 0), (.ofNat 0), (.ofNat 0), (.ofNat 0), (.ofNat 0), (.ofNat 0), (.ofNat 0), (.ofNat 0)]] [((.ofNat 0), (.ofNat 0)), ((.ofNat 0), (.ofNat 0)), ((.ofNat 0), (.ofNat 0)), ((.ofNat 0), (.ofNat 0)), ((.ofNat 0), (.ofNat 0)), ((.ofNat 0), (.ofNat 0)), ((.ofNat 0), (.ofNat 0)), ((.ofNat 0), (.ofNat 0)), ((.ofNat 0), (.ofNat 0)), ((.ofNat 0), (.ofNat 0)), ((.ofNat 0), (.ofNat 0)), ((.ofNat 0), (.ofNat 0)), ((.ofNat 0), (.ofNat 0)), ((.ofNat 0), (.ofNat 0)), ((.ofNat 0), (.ofNat 0)), ((.ofNat 0), (.ofNat 0)), ((.ofNat 0), (.ofNat 0)), ((.ofNat 0), (.ofNat 0)), ((.ofNat 0), (.ofNat 0)), ((.ofNat 0), (.ofNat 0)), ((.ofNat 0), (.ofNat 0)), ((.ofNat 0), (.ofNat 0)), ((.ofNat 0), (.ofNat 0)), ((.ofNat 0), (.ofNat 0)), ((.ofNat 0), (.ofNat 0)), ((.ofNat 0), (.ofNat 0)), ((.ofNat 0), (.ofNat 0)), ((.ofNat 0), (.ofNat 0)), ((.ofNat 0), (.ofNat 0)), ((.ofNat 0), (.ofNat 0)), ((.ofNat 0), (.ofNat 0)), ((.ofNat 0), (.ofNat 0)), ((.ofNat 0), (.ofNat 0))]) finK = pN_tree := by kernel_rfl
set_option maxRecDepth 1000000 in
theorem pN_ok : okTree pN_tree true [] pN_dead = true := by kernel_rfl

theorem pN_any {b o n c : Nat} {zs : List Int} {w : World} (hl : (0 : Int) ≤ n ∧ (n : Int) ≤ 0) (hn : n ≤ c) (hz : zs.length = c) (hc : ∀ i, i < zs.length → w.cell? ⟨b, o + i, none⟩ = some (.int .u8 (zs.getD i 0))) (hw : ∀ z ∈ zs, 0 ≤ z ∧ z ≤ 255) : Calls Try.prog 5 #[.slice (some ⟨b, o, none⟩) n c] w fun e w' => e = .returned (.bool true) ∧ Kp [] w w' := by
  exact run_boolF (ds := pN_dead) follows_mixed plans_ok sumsP_ok pN_run pN_ok (rhoB n b o c zs) (fun x hx => by cases hx) (rgOk_rhoB hl) (fun d hd => by simp [pN_dead] at hd) (xs := [.slice (some ⟨b, o, none⟩) n c]) (by simp only [concL, conc_rhoB hn]; rfl) w (foOk_rhoB hn hz hc hw)

def pM_dead : List (List (SB × Bool)) := [[((.cmp .lss (.lit (.ofNat 0)) (.bin .sub .i64 (.var 32) (.conv .i32 (.bin .add .u32 (.var 32) (.lit (.ofNat 1)))))), true), ((.cmp .lss (.conv .i32 (.bin .sub .u32 (.lit (.ofNat 501)) (.bin .add .u32 (.var 32) (.lit (.ofNat 501))))) (.lit (.ofNat 0))), true)],
  [((.cmp .lss (.conv .i32 (.bin .sub .u32 (.lit (.ofNat 501)) (.bin .add .u32 (.var 32) (.lit (.ofNat 502))))) (.lit (.ofNat 0))), false), ((.cmp .lss (.lit (.ofNat 0)) (.bin .sub .i64 (.var 32) (.conv .i32 (.bin .add .u32 (.var 32) (.lit (.ofNat 1)))))), false), ((.cmp .lss (.conv .i32 (.bin .sub .u32 (.lit (.ofNat 501)) (.bin .add .u32 (.var 32) (.lit (.ofNat 501))))) (.lit (.ofNat 0))), true)],
  [((.cmp .lss (.conv .i32 (.bin .sub .u32 (.lit (.ofNat 501)) (.bin .add .u32 (.var 32) (.lit (.ofNat 501))))) (.lit (.ofNat 0))), false)]]
noncomputable def pM_tree : R := fillT (.fork (.cmp .lss (.conv .i32 (.bin .sub .u32 (.lit (.ofNat 501)) (.bin .add .u32 (.var 32) (.lit (.ofNat 501))))) (.lit (.ofNat 0))) (.fork (.cmp .lss (.lit (.ofNat 0)) (.bin .sub .i64 (.var 32) (.conv .i32 (.bin .add .u32 (.var 32) (.lit (.ofNat 1)))))) .dead (.fork (.cmp .lss (.conv .i32 (.bin .sub .u32 (.lit (.ofNat 501)) (.bin .add .u32 (.var 32) (.lit (.ofNat 502))))) (.lit (.ofNat 0))) endT .dead)) .dead) []
set_option maxRecDepth 1000000 in
theorem pM_run : evCall Try.prog plans sumsP 100000 5 [.fsl 32 zeroS zeroS (.var 32)] (s0 [] [[(.ofNat 0), (.ofNat 0), (.ofNat 0), (.ofNat 0), (.ofNat 0), (.ofNat 0), (.ofNat 0), (.ofNat 0), (.ofNat 0), (.ofNat 0), (.ofNat 0), (.ofNat 0), (.ofNat 0), (.ofNat 0), (.ofNat 0), (.ofNat 0), (.ofNat 0), (.ofNat 0), (.ofNat 0), (.ofNat 0), (.ofNat 0), (.ofNat 0), (.ofNat 0), (.ofNat 0), (.ofNat 0), (.ofNat 0), (.ofNat 0), (.ofNat 0), (.ofNat 0), (.ofNat 0), (.ofNat 0), (.ofNat 0), (.ofNat 1)], [(.ofNat 0), (.ofNat 0), (.ofNat 0), (.ofNat 0), (.ofNat 0), (.ofNat 0), (.ofNat 0), (.ofNat 0), (.ofNat 0), (.ofNat 0), (.ofNat 0), (.ofNat 0), (.ofNat 0), (.ofNat 0), (.ofNat 0), (.ofNat 0), (.ofNat 0), (.ofNat 0), (.ofNat 0), (.ofNat 0), (.ofNat 0), (.ofNat 0), (.ofNat 0), (.ofNat 0), (.ofNat 0), (.ofNat 0), (.ofNat 0), (.ofNat 0), (.ofNat 0), (.ofNat 0), (.ofNat 0), (.ofNat 0), (.ofNat 2)], [(.ofNat 0), (.ofNat 0), (.ofNat 0), (.ofNat 0), (.ofNat 0), (.ofNat 0), (.ofNat 0), (.ofNat 0), (.ofNat 0), (.ofNat 0), (.ofNat 0), (.ofNat 0), (.ofNat 0), (.ofNat 0), (.ofNat 0), (.ofNat 0), (.ofNat 0), (.ofNat 0), (.ofNat 0), (.ofNat 0), (.ofNat 0), (.ofNat 0), (.ofNat 0), (.ofNat 0), (.ofNat 0), (.ofNat 0), (.ofNat 0), (.ofNat 0), (.ofNat 0), (.ofNat 0), (.ofNat 0), (.ofNat 0), (.ofNat 1000)]] [((.ofNat 0), (.ofNat 0)), ((.ofNat 0), (.ofNat 0)), ((.ofNat 0), (.ofNat 0)), ((.ofNat 0), (.ofNat 0)), ((.ofNat 0), (.ofNat 0)), ((.ofNat 0), (.ofNat 0)), ((.ofNat 0), (.ofNat 0)), ((.ofNat 0), (.ofNat 0)), ((.ofNat 0), (.ofNat 0)), ((.ofNat 0), (.ofNat 0)), ((.ofNat 0), (.ofNat 0)), ((.ofNat 0), (.ofNat 0)), ((.ofNat 0), (.ofNat 0)), ((.ofNat 0), (.ofNat 0)), ((.ofNat 0), (.ofNat 0)), ((.ofNat 0), (.ofNat 0)), ((.ofNat 0), (.ofNat 0)), ((.ofNat 0), (.ofNat 0)), ((.ofNat 0), (.ofNat 0)), ((.ofNat 0), (.ofNat 0)), ((.ofNat 0), (.ofNat 0)), ((.ofNat 0), (.ofNat 0)), ((.ofNat 0), (.ofNat 0)), ((.ofNat 0), (.ofNat 0)), ((.ofNat 0), (.ofNat 0)), ((.ofNat 0), (.ofNat 0)), ((.ofNat 0), (.ofNat 0)), ((.ofNat 0), (.ofNat 0)), ((.ofNat 0), (.ofNat 0)), ((.ofNat 0), (.ofNat 0)), ((.ofNat 0), (.ofNat 0)), ((.ofNat 0), (.ofNat 0)), ((.ofNat 1), (.ofNat 1000))]) finK = pM_tree := by kernel_rfl
set_option maxRecDepth 1000000 in
theorem pM_ok : okTree pM_tree true [] pM_dead = true := by kernel_rfl

theorem pM_any {b o n c : Nat} {zs : List Int} {w : World} (hl : (1 : Int) ≤ n ∧ (n : Int) ≤ 1000) (hn : n ≤ c) (hz : zs.length = c) (hc : ∀ i, i < zs.length → w.cell? ⟨b, o + i, none⟩ = some (.int .u8 (zs.getD i 0))) (hw : ∀ z ∈ zs, 0 ≤ z ∧ z ≤ 255) : Calls Try.prog 5 #[.slice (some ⟨b, o, none⟩) n c] w fun e w' => e = .returned (.bool true) ∧ Kp [] w w' := by
  exact run_boolF (ds := pM_dead) follows_mixed plans_ok sumsP_ok pM_run pM_ok (rhoB n b o c zs) (fun x hx => by cases hx) (rgOk_rhoB hl) (fun d hd => by
    simp only [pM_dead, List.mem_cons, List.not_mem_nil, or_false] at hd
    have e32 := rhoB_32 n b o c zs
    rcases hd with rfl | rfl | rfl <;> intro h <;> simp only [conjB, SB.ev, cmpZ, decide_eq_true_eq, decide_eq_false_iff_not, beq_iff_eq, bne_iff_ne, beq_eq_false_iff_ne, bne_eq_false_iff_eq, Bool.not_eq_true', Bool.not_eq_false', ne_eq] at h <;> (simp only [SI.ev, binZ, wrap_u32', wrap_i64', wrap_i32', Int.ofNat_eq_natCast, Int.negSucc_eq, e32] at h) <;> first | done | omega) (xs := [.slice (some ⟨b, o, none⟩) n c]) (by simp only [concL, conc_rhoB hn]; rfl) w (foOk_rhoB hn hz hc hw)

def pG_dead : List (List (SB × Bool)) := []
noncomputable def pG_tree : R := fillT endT []
set_option maxRecDepth 1000000 in
theorem pG_run (p : Option Addr) (c : Nat) : evCall Try.prog plans sumsP 100000 5 [.osl p 0 c] (s0 [] [[(.ofNat 1001)]] [((.ofNat 1001), (.ofNat 9223372036854775807))]) finK = pG_tree := by kernel_rfl
set_option maxRecDepth 1000000 in
theorem pG_ok : okTree pG_tree true [] pG_dead = true := by kernel_rfl

theorem pG_any (p : Option Addr) (n c : Nat) (h : 1000 + 1 ≤ n ∧ (n : Int) ≤ 9223372036854775807) (w : World) : Calls Try.prog 5 #[.slice p n c] w fun e w' => e = .returned (.bool true) ∧ Kp [] w w' := by
  exact run_bool (ds := pG_dead) follows_mixed plans_ok sumsP_ok (pG_run p c) pG_ok (fun i => if i = 0 then (n : Int) else 0) (fun x hx => by cases hx) (rgOk_one ⟨by show (1000 + 1 : Int) ≤ (n : Int); omega, h.2⟩) (fun d hd => by simp [pG_dead] at hd) (xs := [.slice p n c]) rfl w

theorem walk {v : Value} {w : World} (h : RowIn w v) : Calls Try.prog 5 #[v] w fun e w' => e = .returned (.bool true) ∧ Kp [] w w' := by
  rcases h with rfl | ⟨a, rfl⟩ | ⟨b, o, n, c, zs, rfl, hn, hm, hz, hc, hw⟩
  · exact pZ_any w
  · exact pE_any (some a) w
  · by_cases h0 : n = 0
    · exact pN_any (by omega) hn hz hc hw
    · by_cases h1 : n ≤ 1000
      · exact pM_any (by omega) hn hz hc hw
      · exact pG_any _ n c (by omega) w

end Go.Proofs.Ytlmpmmcefdhgmaa.connHalf

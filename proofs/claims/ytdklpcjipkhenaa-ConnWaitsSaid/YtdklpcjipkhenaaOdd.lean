/-
  conn's odd: no segment without bytes whose fields are in their ranges is odd. Reckoned with letters; known ahead from here on.
-/
import Derived.Test.YtdklpcjipkhenaaSxt
import Derived.Test.YtdklpcjipkhenaaPlsOk
set_option linter.unusedVariables false
set_option linter.unusedSimpArgs false
namespace Go.Proofs.Ytdklpcjipkhenaa
open Go

def odd_pcs : List (SB × Bool) := []
def odd_dead : List (List (SB × Bool)) := [[((.not (.cmp .leq (.var 1) (.lit (.ofNat 65535)))), true), ((.cmp .geq (.var 1) (.lit (.ofNat 0))), true)],
  [((.not (.cmp .leq (.var 3) (.lit (.ofNat 65535)))), true), ((.cmp .geq (.var 3) (.lit (.ofNat 0))), true), ((.not (.cmp .leq (.var 1) (.lit (.ofNat 65535)))), false), ((.cmp .geq (.var 1) (.lit (.ofNat 0))), true)],
  [((.not (.cmp .leq (.var 7) (.lit (.ofNat 65535)))), true), ((.cmp .geq (.var 7) (.lit (.ofNat 0))), true), ((.not (.cmp .leq (.var 3) (.lit (.ofNat 65535)))), false), ((.cmp .geq (.var 3) (.lit (.ofNat 0))), true), ((.not (.cmp .leq (.var 1) (.lit (.ofNat 65535)))), false), ((.cmp .geq (.var 1) (.lit (.ofNat 0))), true)],
  [((.not (.cmp .leq (.var 6) (.lit (.ofNat 63)))), true), ((.cmp .geq (.var 6) (.lit (.ofNat 0))), true), ((.not (.cmp .leq (.var 7) (.lit (.ofNat 65535)))), false), ((.cmp .geq (.var 7) (.lit (.ofNat 0))), true), ((.not (.cmp .leq (.var 3) (.lit (.ofNat 65535)))), false), ((.cmp .geq (.var 3) (.lit (.ofNat 0))), true), ((.not (.cmp .leq (.var 1) (.lit (.ofNat 65535)))), false), ((.cmp .geq (.var 1) (.lit (.ofNat 0))), true)],
  [((.not (.cmp .leq (.var 8) (.lit (.ofNat 65535)))), true), ((.cmp .geq (.var 8) (.lit (.ofNat 0))), true), ((.not (.cmp .leq (.var 6) (.lit (.ofNat 63)))), false), ((.cmp .geq (.var 6) (.lit (.ofNat 0))), true), ((.not (.cmp .leq (.var 7) (.lit (.ofNat 65535)))), false), ((.cmp .geq (.var 7) (.lit (.ofNat 0))), true), ((.not (.cmp .leq (.var 3) (.lit (.ofNat 65535)))), false), ((.cmp .geq (.var 3) (.lit (.ofNat 0))), true), ((.not (.cmp .leq (.var 1) (.lit (.ofNat 65535)))), false), ((.cmp .geq (.var 1) (.lit (.ofNat 0))), true)],
  [((.cmp .lss (.var 9) (.lit (.negSucc 0))), true), ((.not (.cmp .leq (.var 8) (.lit (.ofNat 65535)))), false), ((.cmp .geq (.var 8) (.lit (.ofNat 0))), true), ((.not (.cmp .leq (.var 6) (.lit (.ofNat 63)))), false), ((.cmp .geq (.var 6) (.lit (.ofNat 0))), true), ((.not (.cmp .leq (.var 7) (.lit (.ofNat 65535)))), false), ((.cmp .geq (.var 7) (.lit (.ofNat 0))), true), ((.not (.cmp .leq (.var 3) (.lit (.ofNat 65535)))), false), ((.cmp .geq (.var 3) (.lit (.ofNat 0))), true), ((.not (.cmp .leq (.var 1) (.lit (.ofNat 65535)))), false), ((.cmp .geq (.var 1) (.lit (.ofNat 0))), true)],
  [((.cmp .gtr (.var 9) (.lit (.ofNat 14))), true), ((.cmp .lss (.var 9) (.lit (.negSucc 0))), false), ((.not (.cmp .leq (.var 8) (.lit (.ofNat 65535)))), false), ((.cmp .geq (.var 8) (.lit (.ofNat 0))), true), ((.not (.cmp .leq (.var 6) (.lit (.ofNat 63)))), false), ((.cmp .geq (.var 6) (.lit (.ofNat 0))), true), ((.not (.cmp .leq (.var 7) (.lit (.ofNat 65535)))), false), ((.cmp .geq (.var 7) (.lit (.ofNat 0))), true), ((.not (.cmp .leq (.var 3) (.lit (.ofNat 65535)))), false), ((.cmp .geq (.var 3) (.lit (.ofNat 0))), true), ((.not (.cmp .leq (.var 1) (.lit (.ofNat 65535)))), false), ((.cmp .geq (.var 1) (.lit (.ofNat 0))), true)],
  [((.cmp .geq (.var 8) (.lit (.ofNat 0))), false), ((.not (.cmp .leq (.var 6) (.lit (.ofNat 63)))), false), ((.cmp .geq (.var 6) (.lit (.ofNat 0))), true), ((.not (.cmp .leq (.var 7) (.lit (.ofNat 65535)))), false), ((.cmp .geq (.var 7) (.lit (.ofNat 0))), true), ((.not (.cmp .leq (.var 3) (.lit (.ofNat 65535)))), false), ((.cmp .geq (.var 3) (.lit (.ofNat 0))), true), ((.not (.cmp .leq (.var 1) (.lit (.ofNat 65535)))), false), ((.cmp .geq (.var 1) (.lit (.ofNat 0))), true)],
  [((.cmp .geq (.var 6) (.lit (.ofNat 0))), false), ((.not (.cmp .leq (.var 7) (.lit (.ofNat 65535)))), false), ((.cmp .geq (.var 7) (.lit (.ofNat 0))), true), ((.not (.cmp .leq (.var 3) (.lit (.ofNat 65535)))), false), ((.cmp .geq (.var 3) (.lit (.ofNat 0))), true), ((.not (.cmp .leq (.var 1) (.lit (.ofNat 65535)))), false), ((.cmp .geq (.var 1) (.lit (.ofNat 0))), true)],
  [((.cmp .geq (.var 7) (.lit (.ofNat 0))), false), ((.not (.cmp .leq (.var 3) (.lit (.ofNat 65535)))), false), ((.cmp .geq (.var 3) (.lit (.ofNat 0))), true), ((.not (.cmp .leq (.var 1) (.lit (.ofNat 65535)))), false), ((.cmp .geq (.var 1) (.lit (.ofNat 0))), true)],
  [((.cmp .geq (.var 3) (.lit (.ofNat 0))), false), ((.not (.cmp .leq (.var 1) (.lit (.ofNat 65535)))), false), ((.cmp .geq (.var 1) (.lit (.ofNat 0))), true)],
  [((.cmp .geq (.var 1) (.lit (.ofNat 0))), false)]]
def odd_tree : R := (.fork (.cmp .geq (.var 1) (.lit (.ofNat 0))) (.fork (.not (.cmp .leq (.var 1) (.lit (.ofNat 65535)))) .dead (.fork (.cmp .geq (.var 3) (.lit (.ofNat 0))) (.fork (.not (.cmp .leq (.var 3) (.lit (.ofNat 65535)))) .dead (.fork (.cmp .geq (.var 7) (.lit (.ofNat 0))) (.fork (.not (.cmp .leq (.var 7) (.lit (.ofNat 65535)))) .dead (.fork (.cmp .geq (.var 6) (.lit (.ofNat 0))) (.fork (.not (.cmp .leq (.var 6) (.lit (.ofNat 63)))) .dead (.fork (.cmp .geq (.var 8) (.lit (.ofNat 0))) (.fork (.not (.cmp .leq (.var 8) (.lit (.ofNat 65535)))) .dead (.fork (.cmp .lss (.var 9) (.lit (.negSucc 0))) .dead (.fork (.cmp .gtr (.var 9) (.lit (.ofNat 14))) .dead (.fork (.cmp .neq (.var 8) (.lit (.ofNat 0))) (.fork (.cmp .neq (.var 9) (.lit (.negSucc 0))) (.done (.bool (.lit .false)) ⟨.nil, 0, ⟨[((.cmp .neq (.var 9) (.lit (.negSucc 0))), true), ((.cmp .neq (.var 8) (.lit (.ofNat 0))), true), ((.cmp .gtr (.var 9) (.lit (.ofNat 14))), false), ((.cmp .lss (.var 9) (.lit (.negSucc 0))), false), ((.not (.cmp .leq (.var 8) (.lit (.ofNat 65535)))), false), ((.cmp .geq (.var 8) (.lit (.ofNat 0))), true), ((.not (.cmp .leq (.var 6) (.lit (.ofNat 63)))), false), ((.cmp .geq (.var 6) (.lit (.ofNat 0))), true), ((.not (.cmp .leq (.var 7) (.lit (.ofNat 65535)))), false), ((.cmp .geq (.var 7) (.lit (.ofNat 0))), true), ((.not (.cmp .leq (.var 3) (.lit (.ofNat 65535)))), false), ((.cmp .geq (.var 3) (.lit (.ofNat 0))), true), ((.not (.cmp .leq (.var 1) (.lit (.ofNat 65535)))), false), ((.cmp .geq (.var 1) (.lit (.ofNat 0))), true)], []⟩⟩) (.done (.bool (.lit .false)) ⟨.nil, 0, ⟨[((.cmp .neq (.var 9) (.lit (.negSucc 0))), false), ((.cmp .neq (.var 8) (.lit (.ofNat 0))), true), ((.cmp .gtr (.var 9) (.lit (.ofNat 14))), false), ((.cmp .lss (.var 9) (.lit (.negSucc 0))), false), ((.not (.cmp .leq (.var 8) (.lit (.ofNat 65535)))), false), ((.cmp .geq (.var 8) (.lit (.ofNat 0))), true), ((.not (.cmp .leq (.var 6) (.lit (.ofNat 63)))), false), ((.cmp .geq (.var 6) (.lit (.ofNat 0))), true), ((.not (.cmp .leq (.var 7) (.lit (.ofNat 65535)))), false), ((.cmp .geq (.var 7) (.lit (.ofNat 0))), true), ((.not (.cmp .leq (.var 3) (.lit (.ofNat 65535)))), false), ((.cmp .geq (.var 3) (.lit (.ofNat 0))), true), ((.not (.cmp .leq (.var 1) (.lit (.ofNat 65535)))), false), ((.cmp .geq (.var 1) (.lit (.ofNat 0))), true)], []⟩⟩)) (.fork (.cmp .neq (.var 9) (.lit (.negSucc 0))) (.done (.bool (.lit .false)) ⟨.nil, 0, ⟨[((.cmp .neq (.var 9) (.lit (.negSucc 0))), true), ((.cmp .neq (.var 8) (.lit (.ofNat 0))), false), ((.cmp .gtr (.var 9) (.lit (.ofNat 14))), false), ((.cmp .lss (.var 9) (.lit (.negSucc 0))), false), ((.not (.cmp .leq (.var 8) (.lit (.ofNat 65535)))), false), ((.cmp .geq (.var 8) (.lit (.ofNat 0))), true), ((.not (.cmp .leq (.var 6) (.lit (.ofNat 63)))), false), ((.cmp .geq (.var 6) (.lit (.ofNat 0))), true), ((.not (.cmp .leq (.var 7) (.lit (.ofNat 65535)))), false), ((.cmp .geq (.var 7) (.lit (.ofNat 0))), true), ((.not (.cmp .leq (.var 3) (.lit (.ofNat 65535)))), false), ((.cmp .geq (.var 3) (.lit (.ofNat 0))), true), ((.not (.cmp .leq (.var 1) (.lit (.ofNat 65535)))), false), ((.cmp .geq (.var 1) (.lit (.ofNat 0))), true)], []⟩⟩) (.done (.bool (.lit .false)) ⟨.nil, 0, ⟨[((.cmp .neq (.var 9) (.lit (.negSucc 0))), false), ((.cmp .neq (.var 8) (.lit (.ofNat 0))), false), ((.cmp .gtr (.var 9) (.lit (.ofNat 14))), false), ((.cmp .lss (.var 9) (.lit (.negSucc 0))), false), ((.not (.cmp .leq (.var 8) (.lit (.ofNat 65535)))), false), ((.cmp .geq (.var 8) (.lit (.ofNat 0))), true), ((.not (.cmp .leq (.var 6) (.lit (.ofNat 63)))), false), ((.cmp .geq (.var 6) (.lit (.ofNat 0))), true), ((.not (.cmp .leq (.var 7) (.lit (.ofNat 65535)))), false), ((.cmp .geq (.var 7) (.lit (.ofNat 0))), true), ((.not (.cmp .leq (.var 3) (.lit (.ofNat 65535)))), false), ((.cmp .geq (.var 3) (.lit (.ofNat 0))), true), ((.not (.cmp .leq (.var 1) (.lit (.ofNat 65535)))), false), ((.cmp .geq (.var 1) (.lit (.ofNat 0))), true)], []⟩⟩)))))) .dead)) .dead)) .dead)) .dead)) .dead)
set_option maxRecDepth 1000000 in
theorem odd_run : evCall Try.prog plans sums0 100000 30 [.agg [.int .u32 (.var 0), .int .i64 (.var 1), .int .u32 (.var 2), .int .i64 (.var 3), .int .u32 (.var 4), .int .u32 (.var 5), .int .i64 (.var 6), .int .i64 (.var 7), .int .i64 (.var 8), .int .i64 (.var 9), .raw (.slice none 0 0)]] (s0 odd_pcs [[(.ofNat 1), (.ofNat 2), (.ofNat 3), (.ofNat 4), (.ofNat 5), (.ofNat 6), (.ofNat 2), (.ofNat 1000), (.ofNat 1460), (.ofNat 2)], [(.ofNat 1), (.ofNat 2), (.ofNat 3), (.ofNat 4), (.ofNat 5), (.ofNat 6), (.ofNat 2), (.ofNat 1000), (.ofNat 1460), (.negSucc 0)], [(.ofNat 1), (.ofNat 2), (.ofNat 3), (.ofNat 4), (.ofNat 5), (.ofNat 6), (.ofNat 2), (.ofNat 1000), (.ofNat 0), (.ofNat 2)], [(.ofNat 1), (.ofNat 2), (.ofNat 3), (.ofNat 4), (.ofNat 5), (.ofNat 6), (.ofNat 2), (.ofNat 1000), (.ofNat 0), (.negSucc 0)]]) finK = odd_tree := by kernel_rfl
set_option maxRecDepth 1000000 in
theorem odd_ok : okTree odd_tree false odd_pcs odd_dead = true := by kernel_rfl
theorem odd_any (ρ : Nat → Int) (hr1 : 0 ≤ ρ 1 ∧ ρ 1 ≤ 65535) (hr3 : 0 ≤ ρ 3 ∧ ρ 3 ≤ 65535) (hr6 : 0 ≤ ρ 6 ∧ ρ 6 ≤ 63) (hr7 : 0 ≤ ρ 7 ∧ ρ 7 ≤ 65535) (hr8 : 0 ≤ ρ 8 ∧ ρ 8 ≤ 65535) (hr9 : -1 ≤ ρ 9 ∧ ρ 9 ≤ 14) {xs : List Value} (hx : concL [] ρ [.agg [.int .u32 (.var 0), .int .i64 (.var 1), .int .u32 (.var 2), .int .i64 (.var 3), .int .u32 (.var 4), .int .u32 (.var 5), .int .i64 (.var 6), .int .i64 (.var 7), .int .i64 (.var 8), .int .i64 (.var 9), .raw (.slice none 0 0)]] = some xs) (w : World) :
    Calls Try.prog 30 xs.toArray w fun e w' => e = .returned (.bool false) ∧ Kp [] w w' := by
  refine run_bool follows_mixed plans_ok sums0_ok odd_run odd_ok ρ (fun x hx => by simp [odd_pcs] at hx) (fun d hd => ?_) hx w
  simp only [odd_dead, List.mem_cons, List.not_mem_nil, or_false] at hd
  rcases hd with rfl | rfl | rfl | rfl | rfl | rfl | rfl | rfl | rfl | rfl | rfl | rfl <;> intro h <;> simp only [conjB, SB.ev, cmpZ, decide_eq_true_eq, decide_eq_false_iff_not, beq_iff_eq, bne_iff_ne, beq_eq_false_iff_ne, bne_eq_false_iff_eq, Bool.not_eq_true', Bool.not_eq_false', ne_eq] at h <;> (try simp only [SI.ev, binZ, wrap_u32', wrap_i64', wrap_i32', Int.ofNat_eq_natCast, Int.negSucc_eq] at h) <;> first | done | omega
noncomputable def rngF (p m : Int) : Bool := notF (bltF p (.ofNat (nat_lit 0))) && notF (bltF m p)
theorem rngF_spec {p m : Int} (h : rngF p m = true) : 0 ≤ p ∧ p ≤ m := by
  simp only [rngF, notF_eq, bltF_eq, Bool.and_eq_true, Bool.not_eq_true', decide_eq_false_iff_not] at h
  exact ⟨Int.not_lt.1 h.1, Int.not_lt.1 h.2⟩
/-- a segment without bytes whose fields are in their ranges -/
noncomputable def sumOdd : List AV → Option AV
  | [.agg [.int .u32 _, .int .i64 (.lit p1), .int .u32 _, .int .i64 (.lit p3), .int .u32 _, .int .u32 _, .int .i64 (.lit p6), .int .i64 (.lit p7), .int .i64 (.lit p8), .int .i64 (.lit p9), .raw (.slice none 0 0)]] =>
    Bool.rec (motive := fun _ => Option AV) none (some (.bool (.lit false))) (rngF p1 65535 && (rngF p3 65535 && (rngF p6 63 && (rngF p7 65535 && (rngF p8 65535 && rngF (p9 + 1) 15)))))
  | _ => none
theorem sumOdd_ok : PureOk Try.prog 30 sumOdd := by
  intro l v h φ ρ xs w hx
  unfold sumOdd at h
  split at h
  · rename_i e0 p1 e2 p3 e4 e5 p6 p7 p8 p9
    cases hb : (rngF p1 65535 && (rngF p3 65535 && (rngF p6 63 && (rngF p7 65535 && (rngF p8 65535 && rngF (p9 + 1) 15))))) with
    | false => rw [hb] at h; cases h
    | true =>
      rw [hb] at h
      cases h
      simp only [Bool.and_eq_true] at hb
      obtain ⟨b1, b3, b6, b7, b8, b9⟩ := hb
      have b9 := rngF_spec b9
      refine ⟨.bool false, rfl, odd_any (fun i => match i with | 0 => e0.ev ρ | 1 => p1 | 2 => e2.ev ρ | 3 => p3 | 4 => e4.ev ρ | 5 => e5.ev ρ | 6 => p6 | 7 => p7 | 8 => p8 | _ => p9) (rngF_spec b1) (rngF_spec b3) (rngF_spec b6) (rngF_spec b7) (rngF_spec b8) ⟨by show -1 ≤ p9; omega, by show p9 ≤ 14; omega⟩ ?_ w⟩
      rw [← hx]
      rfl
  · cases h
/-- with sums of letters, and odd -/
noncomputable def sums1 : Sums := sumOr sums0 (sumPure 30 sumOdd)
theorem sums1_ok : SumsOk Try.prog sums1 := sumOr_ok sums0_ok (sumPure_ok (enter_of Try.func30 (by kernel_rfl) (by kernel_rfl)) sumOdd_ok)

end Go.Proofs.Ytdklpcjipkhenaa

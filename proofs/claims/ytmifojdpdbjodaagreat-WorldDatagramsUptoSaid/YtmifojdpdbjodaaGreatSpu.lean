/-
  The padding of a frame that holds a datagram's last piece is a letter: what is known of it.
-/
import Derived.Test.YtmifojdpdbjodaaGreatCg
set_option linter.unusedVariables false
set_option linter.unusedSimpArgs false
namespace Go.Proofs.YtmifojdpdbjodaaGreat
open Go

noncomputable section
/-- what is left of k + q bytes -/
def padW (q k : Int) (n : Nat) : Int := if k + q - (n : Int) > 0 then k + q - (n : Int) else 0
end
theorem padW_rg {q k b : Int} {n : Nat} (hb : 0 ≤ b) (h : k + q - b ≤ (n : Int)) : 0 ≤ padW q k n ∧ padW q k n ≤ b := by
  unfold padW
  split <;> omega
theorem npA_ev' {ρ : Nat → Int} {n p : Nat} {m : Int} (h1 : -1000000 ≤ ρ n ∧ ρ n ≤ 1000000) (h2 : 0 ≤ ρ p ∧ ρ p ≤ 1000) (h3 : -1000000 ≤ m ∧ m ≤ 1000000) : (npA n p m).ev ρ = ρ n + ρ p + m := by
  show IntKind.i64.wrap (IntKind.i64.wrap (ρ n + ρ p) + m) = _
  rw [wrap_i64', wrap_i64']
  omega
theorem padP_okW {ρ : Nat → Int} (q k b hi a1 a2 a3 : Int) (hk : 0 ≤ k ∧ k ≤ 100000) (hq : 0 ≤ q ∧ q ≤ 1000) (hb : 0 ≤ b ∧ b ≤ 1000) (hh : 0 ≤ hi ∧ hi + a1 ≤ 1514 ∧ q + a1 ≤ 1514) (ha : 0 ≤ a1 ∧ a1 ≤ 1000 ∧ 0 ≤ a2 ∧ a2 ≤ 1000 ∧ 0 ≤ a3 ∧ a3 ≤ 1000) {n p l : Nat} (hl : ρ n = (l : Int)) (h1 : k + q - b ≤ (l : Int) ∧ (l : Int) ≤ k + hi) (h2 : ρ p = padW q k l) {c m0 m1 m2 m3 : Int} {x0 : SI}
    (e1 : c = k + q) (e2 : m0 = - k) (e3 : m1 = a1 - k) (e4 : m2 = a2 - k) (e5 : m3 = a3 - k) (hx : (x0 = .var n ∧ k = 0) ∨ x0 = nA n m0) : ∀ x ∈ padP n p c m0 m1 m2 m3 x0, x.1.ev ρ = x.2 := by
  have hp := padW_rg hb.1 h1.1
  rw [← h2] at hp
  have hn : -1000000 ≤ ρ n ∧ ρ n ≤ 1000000 := by omega
  have hp' : 0 ≤ ρ p ∧ ρ p ≤ 1000 := by omega
  have hx0 : x0.ev ρ = ρ n - k := by
    rcases hx with ⟨rfl, rfl⟩ | rfl
    · show ρ n = _; omega
    · rw [nA_ev hn (by omega)]; omega
  intro x hm
  simp only [padP, List.mem_cons, List.not_mem_nil, or_false] at hm
  rcases hm with rfl | rfl | rfl | rfl | rfl
  · show (SI.ev ρ (maxE (.var n) c) == ρ p) = true
    have hw : IntKind.i64.wrap (c - ρ n) = c - ρ n := by rw [wrap_i64']; omega
    have : SI.ev ρ (maxE (.var n) c) = binZ .andNot .i64 (IntKind.i64.wrap (c - ρ n)) (binZ .shr .i64 (IntKind.i64.wrap (c - ρ n)) (Int.ofNat 63)) := rfl
    rw [this, hw, maxZ (by omega) (by omega), beq_iff_eq, h2, hl, e1]
    rfl
  · show decide (SI.ev ρ (npA n p m0) < x0.ev ρ) = false
    rw [npA_ev' hn hp' (by omega), hx0, decide_eq_false_iff_not]; omega
  · show decide ((1514 : Int) < SI.ev ρ (npA n p m1)) = false
    have h3 : ρ n + ρ p ≤ k + 1514 - a1 := by
      rw [h2, hl]
      unfold padW
      split <;> omega
    rw [npA_ev' hn hp' (by omega), decide_eq_false_iff_not]; omega
  · show decide (SI.ev ρ (npA n p m2) < SI.ev ρ (nA n m2)) = false
    rw [npA_ev' hn hp' (by omega), nA_ev hn (by omega), decide_eq_false_iff_not]; omega
  · show decide (SI.ev ρ (npA n p m3) < SI.ev ρ (nA n m3)) = false
    rw [npA_ev' hn hp' (by omega), nA_ev hn (by omega), decide_eq_false_iff_not]; omega
end Go.Proofs.YtmifojdpdbjodaaGreat

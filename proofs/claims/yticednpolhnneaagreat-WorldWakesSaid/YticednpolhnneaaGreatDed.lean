/-
  Runs whose ways that nobody goes are refuted by reckoning: one letter has but few values, and at each of them some condition is not met.
-/
import Derived.Test.YticednpolhnneaaGreatStg
set_option linter.unusedVariables false
set_option linter.unusedSimpArgs false
namespace Go.Proofs.YticednpolhnneaaGreat
open Go Go.RowKit

noncomputable section
/-- it speaks of that letter alone -/
def SI.only (v : Nat) : SI → Bool
  | .lit _ => true
  | .var i => Nat.beq i v
  | .bin _ _ a b => SI.only v a && SI.only v b
  | .conv _ a => SI.only v a
  | .fold _ => false
  | .rs _ _ _ _ => false
def SB.only (v : Nat) : SB → Bool
  | .lit _ => true
  | .cmp _ a b => SI.only v a && SI.only v b
  | .not a => SB.only v a
/-- at that value of the letter some condition is not met -/
def offB (v : Nat) (c : Int) (acc : List (SB × Bool)) : Bool := acc.any fun x => SB.only v x.1 && (SB.ev (fun _ => c) x.1 != x.2)
def refB (v : Nat) (lo : Int) (n : Nat) (acc : List (SB × Bool)) : Bool := (List.range n).all fun i => offB v (lo + i) acc
/-- every end is good; the ways that nobody goes are refuted (n values of the letter v from lo on; n = 0: there are no such ways) -/
def okT2 (v : Nat) (lo : Int) (n : Nat) (good : AV → Bool) (r : R) : List (SB × Bool) → Bool :=
  R.rec (motive := fun _ => List (SB × Bool) → Bool) (fun x s acc => good x && pcBeq s.pc.l acc) (fun _ _ => false) (fun acc => Nat.blt (nat_lit 0) n && refB v lo n acc) (fun c _ _ a b acc => a ((c, true) :: acc) && b ((c, false) :: acc)) r
end
theorem SI.only_ev {v : Nat} {ρ : Nat → Int} : ∀ {e : SI}, SI.only v e = true → e.ev ρ = e.ev (fun _ => ρ v)
  | .lit _, _ => rfl
  | .var i, h => by
    simp only [SI.only, natBeq, decide_eq_true_eq] at h
    subst h; rfl
  | .bin _ _ a b, h => by
    simp only [SI.only, Bool.and_eq_true] at h
    simp only [SI.ev, SI.only_ev h.1, SI.only_ev h.2]
  | .conv _ a, h => by
    simp only [SI.only] at h
    simp only [SI.ev, SI.only_ev h]
  | .fold _, h => by simp [SI.only] at h
  | .rs _ _ _ _, h => by simp [SI.only] at h
theorem SB.only_ev {v : Nat} {ρ : Nat → Int} : ∀ {c : SB}, SB.only v c = true → c.ev ρ = c.ev (fun _ => ρ v)
  | .lit _, _ => rfl
  | .cmp _ a b, h => by
    simp only [SB.only, Bool.and_eq_true] at h
    simp only [SB.ev]
    rw [SI.only_ev h.1, SI.only_ev h.2]
  | .not a, h => by
    simp only [SB.only] at h
    simp only [SB.ev]
    rw [SB.only_ev h]
theorem refB_ok {v : Nat} {lo : Int} {n : Nat} {acc : List (SB × Bool)} (h : refB v lo n acc = true) {ρ : Nat → Int} (h1 : lo ≤ ρ v) (h2 : ρ v < lo + n) : ¬ ∀ x ∈ acc, x.1.ev ρ = x.2 := by
  intro ha
  have hi := List.all_eq_true.1 h (ρ v - lo).toNat (List.mem_range.2 (by omega))
  rw [show lo + ((ρ v - lo).toNat : Int) = ρ v by omega] at hi
  obtain ⟨x, hx, hb⟩ := List.any_eq_true.1 hi
  simp only [Bool.and_eq_true, bne_iff_ne, ne_eq] at hb
  exact hb.2 (by rw [← SB.only_ev hb.1]; exact ha x hx)
theorem okT2_inv {v : Nat} {lo : Int} {n : Nat} {good : AV → Bool} {ρ : Nat → Int} (hv : n = 0 ∨ lo ≤ ρ v ∧ ρ v < lo + n) : ∀ (r : R) {acc : List (SB × Bool)}, okT2 v lo n good r acc = true → (∀ x ∈ acc, x.1.ev ρ = x.2) → ∃ V S, r ∈ Dn.mk ρ V S ∧ good V = true ∧ ∀ x ∈ S.pc.l, x.1.ev ρ = x.2 := by
  intro r
  induction r with
  | done V S =>
    intro acc h ha
    have h : (good V && pcBeq S.pc.l acc) = true := h
    simp only [Bool.and_eq_true] at h
    exact ⟨V, S, ⟨rfl, rfl⟩, h.1, fun x hx => ha x (by rw [← pcBeq_eq _ _ h.2]; exact hx)⟩
  | fail m => intro acc h; cases h
  | dead =>
    intro acc h ha
    have h : (Nat.blt (nat_lit 0) n && refB v lo n acc) = true := h
    simp only [Bool.and_eq_true, natBlt, decide_eq_true_eq] at h
    rcases hv with hv | hv
    · omega
    · exact absurd ha (refB_ok h.2 hv.1 hv.2)
  | fork c a b iha ihb =>
    intro acc h ha
    have h : (okT2 v lo n good a ((c, true) :: acc) && okT2 v lo n good b ((c, false) :: acc)) = true := h
    simp only [Bool.and_eq_true] at h
    cases hc : c.ev ρ with
    | true =>
      obtain ⟨V, S, e1, e2, e3⟩ := iha h.1 (fun x hx => by
        simp only [List.mem_cons] at hx
        rcases hx with rfl | hx
        · exact hc
        · exact ha x hx)
      exact ⟨V, S, .inl ⟨hc, e1⟩, e2, e3⟩
    | false =>
      obtain ⟨V, S, e1, e2, e3⟩ := ihb h.2 (fun x hx => by
        simp only [List.mem_cons] at hx
        rcases hx with rfl | hx
        · exact hc
        · exact ha x hx)
      exact ⟨V, S, .inr ⟨hc, e1⟩, e2, e3⟩
/-- a run that ends in a bool -/
theorem run_bool2 {P : Program} {pl : Plans} {sm : Sums} (hm : P.follows .mixedOrders = true) (hP : PlansOk P pl) (hS : SumsOk P sm) {n : Nat} {f : FuncId} {args : List AV} {smp : List (List Int)} {rg : List (Int × Int)} {b : Bool} {v : Nat} {lo : Int} {m : Nat}
    (hr : okT2 v lo m (isB b) (evCall P pl sm n f args (s0 [] smp rg) finK) [] = true) (ρ : Nat → Int) (hrg : RgOk ρ rg) (hv : m = 0 ∨ lo ≤ ρ v ∧ ρ v < lo + m) {xs : List Value} (hx : concL [] ρ args = some xs) (w : World)
    (hfo : ∀ a, ρ (fMark a) ≠ 1 := by first | (intro a; show (0 : Int) ≠ 1; decide) | (intro a; unfold fMark; repeat (rw [if_neg (by omega)]); decide)) :
    Calls P f xs.toArray w fun e w' => e = .returned (.bool b) ∧ Kp [] w w' := by
  obtain ⟨V, S, h1, h2, h3⟩ := okT2_inv hv _ hr (fun x hx => by cases hx)
  refine (run_sound hm hP hS h1 ρ hx h3 hrg w (fun a _ _ h => absurd h (hfo a))).mono fun e w' ⟨φ, x, he, hc, hk⟩ => ⟨?_, hk⟩
  unfold isB at h2
  split at h2
  · simp only [conc, SB.ev, Option.some.injEq] at hc
    simp only [beq_iff_eq] at h2
    rw [he, ← hc, h2]
  · cases h2
end Go.Proofs.YticednpolhnneaaGreat

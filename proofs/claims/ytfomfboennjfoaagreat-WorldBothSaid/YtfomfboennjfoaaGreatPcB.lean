/-
  WorldBoth: what the runs say.
-/
import Derived.Test.YtfomfboennjfoaaGreatPaB0
import Derived.Test.YtfomfboennjfoaaGreatPaB1
import Derived.Test.YtfomfboennjfoaaGreatPaB2
import Derived.Test.YtfomfboennjfoaaGreatPaB3
import Derived.Test.YtfomfboennjfoaaGreatPaB4
import Derived.Test.YtfomfboennjfoaaGreatPaB5
set_option linter.unusedVariables false
set_option linter.unusedSimpArgs false
namespace Go.Proofs.YtfomfboennjfoaaGreat.worldBoth
open Go

theorem pm11_ok (ρ : Nat → Int) (n m : Nat) (e1 : ρ 32 = (n : Int)) (e2 : ρ 33 = (m : Int)) (e3 : ρ 3 = padQ (some (.ofNat 0)) n) (e4 : ρ 4 = padQ (some (.ofNat 0)) m) (h1 : 1 ≤ (n : Int) ∧ (n : Int) ≤ 1460) (h2 : 1 ≤ (m : Int) ∧ (m : Int) ≤ 1460) : ∀ x ∈ pm11, x.1.ev ρ = x.2 := mem_app_ok (padP_ok 0 (by omega) e1 (by omega) e3 rfl rfl rfl rfl rfl (.inl ⟨rfl, rfl⟩)) (padP_ok 0 (by omega) e2 (by omega) e4 rfl rfl rfl rfl rfl (.inl ⟨rfl, rfl⟩))
theorem pm12a_ok (ρ : Nat → Int) (n m : Nat) (e1 : ρ 32 = (n : Int)) (e2 : ρ 33 = (m : Int)) (e3 : ρ 3 = padQ (some (.ofNat 0)) n) (e4 : ρ 4 = padQ (some (.ofNat 1460)) m) (h1 : 1 ≤ (n : Int) ∧ (n : Int) ≤ 1460) (h2 : 1461 ≤ (m : Int) ∧ (m : Int) ≤ 2919) : ∀ x ∈ pm12a, x.1.ev ρ = x.2 := mem_app_ok (padP_ok 0 (by omega) e1 (by omega) e3 rfl rfl rfl rfl rfl (.inl ⟨rfl, rfl⟩)) (padP_ok 1460 (by omega) e2 (by omega) e4 rfl rfl rfl rfl rfl (.inr rfl))
theorem pm12c_ok (ρ : Nat → Int) (n m : Nat) (e1 : ρ 32 = (n : Int)) (e2 : ρ 33 = (m : Int)) (e3 : ρ 3 = padQ (some (.ofNat 0)) n) (e4 : ρ 4 = padQ none m) (h1 : 1 ≤ (n : Int) ∧ (n : Int) ≤ 1460) (h2 : 2920 ≤ (m : Int) ∧ (m : Int) ≤ 2920) : ∀ x ∈ pm12c, x.1.ev ρ = x.2 := padP_ok 0 (by omega) e1 (by omega) e3 rfl rfl rfl rfl rfl (.inl ⟨rfl, rfl⟩)
theorem pm13a_ok (ρ : Nat → Int) (n m : Nat) (e1 : ρ 32 = (n : Int)) (e2 : ρ 33 = (m : Int)) (e3 : ρ 3 = padQ (some (.ofNat 0)) n) (e4 : ρ 4 = padQ (some (.ofNat 2920)) m) (h1 : 1 ≤ (n : Int) ∧ (n : Int) ≤ 1460) (h2 : 2921 ≤ (m : Int) ∧ (m : Int) ≤ 4000) : ∀ x ∈ pm13a, x.1.ev ρ = x.2 := mem_app_ok (padP_ok 0 (by omega) e1 (by omega) e3 rfl rfl rfl rfl rfl (.inl ⟨rfl, rfl⟩)) (padP_ok 2920 (by omega) e2 (by omega) e4 rfl rfl rfl rfl rfl (.inr rfl))
theorem pm2a1_ok (ρ : Nat → Int) (n m : Nat) (e1 : ρ 32 = (n : Int)) (e2 : ρ 33 = (m : Int)) (e3 : ρ 3 = padQ (some (.ofNat 1460)) n) (e4 : ρ 4 = padQ (some (.ofNat 0)) m) (h1 : 1461 ≤ (n : Int) ∧ (n : Int) ≤ 2919) (h2 : 1 ≤ (m : Int) ∧ (m : Int) ≤ 1460) : ∀ x ∈ pm2a1, x.1.ev ρ = x.2 := mem_app_ok (padP_ok 1460 (by omega) e1 (by omega) e3 rfl rfl rfl rfl rfl (.inr rfl)) (padP_ok 0 (by omega) e2 (by omega) e4 rfl rfl rfl rfl rfl (.inl ⟨rfl, rfl⟩))
theorem pm2a2a_ok (ρ : Nat → Int) (n m : Nat) (e1 : ρ 32 = (n : Int)) (e2 : ρ 33 = (m : Int)) (e3 : ρ 3 = padQ (some (.ofNat 1460)) n) (e4 : ρ 4 = padQ (some (.ofNat 1460)) m) (h1 : 1461 ≤ (n : Int) ∧ (n : Int) ≤ 2919) (h2 : 1461 ≤ (m : Int) ∧ (m : Int) ≤ 2919) : ∀ x ∈ pm2a2a, x.1.ev ρ = x.2 := mem_app_ok (padP_ok 1460 (by omega) e1 (by omega) e3 rfl rfl rfl rfl rfl (.inr rfl)) (padP_ok 1460 (by omega) e2 (by omega) e4 rfl rfl rfl rfl rfl (.inr rfl))
theorem pm2a2c_ok (ρ : Nat → Int) (n m : Nat) (e1 : ρ 32 = (n : Int)) (e2 : ρ 33 = (m : Int)) (e3 : ρ 3 = padQ (some (.ofNat 1460)) n) (e4 : ρ 4 = padQ none m) (h1 : 1461 ≤ (n : Int) ∧ (n : Int) ≤ 2919) (h2 : 2920 ≤ (m : Int) ∧ (m : Int) ≤ 2920) : ∀ x ∈ pm2a2c, x.1.ev ρ = x.2 := padP_ok 1460 (by omega) e1 (by omega) e3 rfl rfl rfl rfl rfl (.inr rfl)
theorem pm2a3a_ok (ρ : Nat → Int) (n m : Nat) (e1 : ρ 32 = (n : Int)) (e2 : ρ 33 = (m : Int)) (e3 : ρ 3 = padQ (some (.ofNat 1460)) n) (e4 : ρ 4 = padQ (some (.ofNat 2920)) m) (h1 : 1461 ≤ (n : Int) ∧ (n : Int) ≤ 2919) (h2 : 2921 ≤ (m : Int) ∧ (m : Int) ≤ 4000) : ∀ x ∈ pm2a3a, x.1.ev ρ = x.2 := mem_app_ok (padP_ok 1460 (by omega) e1 (by omega) e3 rfl rfl rfl rfl rfl (.inr rfl)) (padP_ok 2920 (by omega) e2 (by omega) e4 rfl rfl rfl rfl rfl (.inr rfl))
theorem pm2c1_ok (ρ : Nat → Int) (n m : Nat) (e1 : ρ 32 = (n : Int)) (e2 : ρ 33 = (m : Int)) (e3 : ρ 3 = padQ none n) (e4 : ρ 4 = padQ (some (.ofNat 0)) m) (h1 : 2920 ≤ (n : Int) ∧ (n : Int) ≤ 2920) (h2 : 1 ≤ (m : Int) ∧ (m : Int) ≤ 1460) : ∀ x ∈ pm2c1, x.1.ev ρ = x.2 := padP_ok 0 (by omega) e2 (by omega) e4 rfl rfl rfl rfl rfl (.inl ⟨rfl, rfl⟩)
theorem pm2c2a_ok (ρ : Nat → Int) (n m : Nat) (e1 : ρ 32 = (n : Int)) (e2 : ρ 33 = (m : Int)) (e3 : ρ 3 = padQ none n) (e4 : ρ 4 = padQ (some (.ofNat 1460)) m) (h1 : 2920 ≤ (n : Int) ∧ (n : Int) ≤ 2920) (h2 : 1461 ≤ (m : Int) ∧ (m : Int) ≤ 2919) : ∀ x ∈ pm2c2a, x.1.ev ρ = x.2 := padP_ok 1460 (by omega) e2 (by omega) e4 rfl rfl rfl rfl rfl (.inr rfl)
theorem pm2c2c_ok (ρ : Nat → Int) (n m : Nat) (e1 : ρ 32 = (n : Int)) (e2 : ρ 33 = (m : Int)) (e3 : ρ 3 = padQ none n) (e4 : ρ 4 = padQ none m) (h1 : 2920 ≤ (n : Int) ∧ (n : Int) ≤ 2920) (h2 : 2920 ≤ (m : Int) ∧ (m : Int) ≤ 2920) : ∀ x ∈ pm2c2c, x.1.ev ρ = x.2 := (show ∀ x ∈ ([] : List (SB × Bool)), x.1.ev ρ = x.2 from fun x hx => by cases hx)
theorem pm2c3a_ok (ρ : Nat → Int) (n m : Nat) (e1 : ρ 32 = (n : Int)) (e2 : ρ 33 = (m : Int)) (e3 : ρ 3 = padQ none n) (e4 : ρ 4 = padQ (some (.ofNat 2920)) m) (h1 : 2920 ≤ (n : Int) ∧ (n : Int) ≤ 2920) (h2 : 2921 ≤ (m : Int) ∧ (m : Int) ≤ 4000) : ∀ x ∈ pm2c3a, x.1.ev ρ = x.2 := padP_ok 2920 (by omega) e2 (by omega) e4 rfl rfl rfl rfl rfl (.inr rfl)
theorem pm3a1_ok (ρ : Nat → Int) (n m : Nat) (e1 : ρ 32 = (n : Int)) (e2 : ρ 33 = (m : Int)) (e3 : ρ 3 = padQ (some (.ofNat 2920)) n) (e4 : ρ 4 = padQ (some (.ofNat 0)) m) (h1 : 2921 ≤ (n : Int) ∧ (n : Int) ≤ 4000) (h2 : 1 ≤ (m : Int) ∧ (m : Int) ≤ 1460) : ∀ x ∈ pm3a1, x.1.ev ρ = x.2 := mem_app_ok (padP_ok 2920 (by omega) e1 (by omega) e3 rfl rfl rfl rfl rfl (.inr rfl)) (padP_ok 0 (by omega) e2 (by omega) e4 rfl rfl rfl rfl rfl (.inl ⟨rfl, rfl⟩))
theorem pm3a2a_ok (ρ : Nat → Int) (n m : Nat) (e1 : ρ 32 = (n : Int)) (e2 : ρ 33 = (m : Int)) (e3 : ρ 3 = padQ (some (.ofNat 2920)) n) (e4 : ρ 4 = padQ (some (.ofNat 1460)) m) (h1 : 2921 ≤ (n : Int) ∧ (n : Int) ≤ 4000) (h2 : 1461 ≤ (m : Int) ∧ (m : Int) ≤ 2919) : ∀ x ∈ pm3a2a, x.1.ev ρ = x.2 := mem_app_ok (padP_ok 2920 (by omega) e1 (by omega) e3 rfl rfl rfl rfl rfl (.inr rfl)) (padP_ok 1460 (by omega) e2 (by omega) e4 rfl rfl rfl rfl rfl (.inr rfl))
theorem pm3a2c_ok (ρ : Nat → Int) (n m : Nat) (e1 : ρ 32 = (n : Int)) (e2 : ρ 33 = (m : Int)) (e3 : ρ 3 = padQ (some (.ofNat 2920)) n) (e4 : ρ 4 = padQ none m) (h1 : 2921 ≤ (n : Int) ∧ (n : Int) ≤ 4000) (h2 : 2920 ≤ (m : Int) ∧ (m : Int) ≤ 2920) : ∀ x ∈ pm3a2c, x.1.ev ρ = x.2 := padP_ok 2920 (by omega) e1 (by omega) e3 rfl rfl rfl rfl rfl (.inr rfl)
theorem pm3a3a_ok (ρ : Nat → Int) (n m : Nat) (e1 : ρ 32 = (n : Int)) (e2 : ρ 33 = (m : Int)) (e3 : ρ 3 = padQ (some (.ofNat 2920)) n) (e4 : ρ 4 = padQ (some (.ofNat 2920)) m) (h1 : 2921 ≤ (n : Int) ∧ (n : Int) ≤ 4000) (h2 : 2921 ≤ (m : Int) ∧ (m : Int) ≤ 4000) : ∀ x ∈ pm3a3a, x.1.ev ρ = x.2 := mem_app_ok (padP_ok 2920 (by omega) e1 (by omega) e3 rfl rfl rfl rfl rfl (.inr rfl)) (padP_ok 2920 (by omega) e2 (by omega) e4 rfl rfl rfl rfl rfl (.inr rfl))
theorem pM2a2a_any : AnyB 1461 2919 1461 2919 := run_any plansB2a2a_ok sums2a2a_ok pM2a2a_ok pm2a2a_ok (by decide) (fun k e => by cases e; decide) (fun k e => by cases e; decide)
theorem pM2a1a_any : AnyB 1461 2919 1 1456 := run_any plansB12a_ok sums2a1_ok pM2a1a_ok pm2a1_ok (by decide) (fun k e => by cases e; decide) (fun k e => by cases e; decide)
theorem pM3a1a_any : AnyB 2921 4000 1 1456 := run_any plansB13a_ok sums3a1_ok pM3a1a_ok pm3a1_ok (by decide) (fun k e => by cases e; decide) (fun k e => by cases e; decide)
theorem pM1b1b_any : AnyB 1457 1459 1457 1459 := run_any plansB11_ok sums11_ok pM1b1b_ok pm11_ok (by decide) (fun k e => by cases e; decide) (fun k e => by cases e; decide)
theorem pM1b2c_any : AnyB 1457 1459 2920 2920 := run_any plansB12c_ok sums12c_ok pM1b2c_ok pm12c_ok (by decide) (fun k e => by cases e; decide) (fun k e => by cases e)
theorem pM3l3l_any : AnyB 2921 3364 2921 3364 := run_any plansB3a3a_ok sumsX_ok pM3l3l_ok pm3a3a_ok (by decide) (fun k e => by cases e; decide) (fun k e => by cases e; decide)
theorem pM2a3a_any : AnyB 1461 2919 2921 4000 := run_any plansB2a3a_ok sums2a3a_ok pM2a3a_ok pm2a3a_ok (by decide) (fun k e => by cases e; decide) (fun k e => by cases e; decide)
theorem pM2a1b_any : AnyB 1461 2919 1457 1459 := run_any plansB12a_ok sums2a1_ok pM2a1b_ok pm2a1_ok (by decide) (fun k e => by cases e; decide) (fun k e => by cases e; decide)
theorem pM3a1b_any : AnyB 2921 4000 1457 1459 := run_any plansB13a_ok sums3a1_ok pM3a1b_ok pm3a1_ok (by decide) (fun k e => by cases e; decide) (fun k e => by cases e; decide)
theorem pM1b1c_any : AnyB 1457 1459 1460 1460 := run_any plansB11_ok sums11_ok pM1b1c_ok pm11_ok (by decide) (fun k e => by cases e; decide) (fun k e => by cases e; decide)
theorem pM1c2c_any : AnyB 1460 1460 2920 2920 := run_any plansB12c_ok sums12c_ok pM1c2c_ok pm12c_ok (by decide) (fun k e => by cases e; decide) (fun k e => by cases e)
theorem pM3l3h_any : AnyB 2921 3364 3365 4000 := run_any plansB3a3a_ok sumsX_ok pM3l3h_ok pm3a3a_ok (by decide) (fun k e => by cases e; decide) (fun k e => by cases e; decide)
theorem pM3a2a_any : AnyB 2921 4000 1461 2919 := run_any plansB2a3a_ok sums3a2a_ok pM3a2a_ok pm3a2a_ok (by decide) (fun k e => by cases e; decide) (fun k e => by cases e; decide)
theorem pM2a1c_any : AnyB 1461 2919 1460 1460 := run_any plansB12a_ok sums2a1_ok pM2a1c_ok pm2a1_ok (by decide) (fun k e => by cases e; decide) (fun k e => by cases e; decide)
theorem pM3a1c_any : AnyB 2921 4000 1460 1460 := run_any plansB13a_ok sums3a1_ok pM3a1c_ok pm3a1_ok (by decide) (fun k e => by cases e; decide) (fun k e => by cases e; decide)
theorem pM1c1a_any : AnyB 1460 1460 1 1456 := run_any plansB11_ok sums11_ok pM1c1a_ok pm11_ok (by decide) (fun k e => by cases e; decide) (fun k e => by cases e; decide)
theorem pM2c1a_any : AnyB 2920 2920 1 1456 := run_any plansB12c_ok sums2c1_ok pM2c1a_ok pm2c1_ok (by decide) (fun k e => by cases e) (fun k e => by cases e; decide)
theorem pM3h3l_any : AnyB 3365 4000 2921 3364 := run_any plansB3a3a_ok sumsX_ok pM3h3l_ok pm3a3a_ok (by decide) (fun k e => by cases e; decide) (fun k e => by cases e; decide)
theorem pM1a2a_any : AnyB 1 1456 1461 2919 := run_any plansB12a_ok sums12a_ok pM1a2a_ok pm12a_ok (by decide) (fun k e => by cases e; decide) (fun k e => by cases e; decide)
theorem pM1a3a_any : AnyB 1 1456 2921 4000 := run_any plansB13a_ok sums13a_ok pM1a3a_ok pm13a_ok (by decide) (fun k e => by cases e; decide) (fun k e => by cases e; decide)
theorem pM2a2c_any : AnyB 1461 2919 2920 2920 := run_any plansB2a2c_ok sums2a2c_ok pM2a2c_ok pm2a2c_ok (by decide) (fun k e => by cases e; decide) (fun k e => by cases e)
theorem pM3a2c_any : AnyB 2921 4000 2920 2920 := run_any plansB2c3a_ok sums3a2c_ok pM3a2c_ok pm3a2c_ok (by decide) (fun k e => by cases e; decide) (fun k e => by cases e)
theorem pM1c1b_any : AnyB 1460 1460 1457 1459 := run_any plansB11_ok sums11_ok pM1c1b_ok pm11_ok (by decide) (fun k e => by cases e; decide) (fun k e => by cases e; decide)
theorem pM2c1b_any : AnyB 2920 2920 1457 1459 := run_any plansB12c_ok sums2c1_ok pM2c1b_ok pm2c1_ok (by decide) (fun k e => by cases e) (fun k e => by cases e; decide)
theorem pM3h3h_any : AnyB 3365 4000 3365 4000 := run_any plansB3a3a_ok sumsX_ok pM3h3h_ok pm3a3a_ok (by decide) (fun k e => by cases e; decide) (fun k e => by cases e; decide)
theorem pM1b2a_any : AnyB 1457 1459 1461 2919 := run_any plansB12a_ok sums12a_ok pM1b2a_ok pm12a_ok (by decide) (fun k e => by cases e; decide) (fun k e => by cases e; decide)
theorem pM1b3a_any : AnyB 1457 1459 2921 4000 := run_any plansB13a_ok sums13a_ok pM1b3a_ok pm13a_ok (by decide) (fun k e => by cases e; decide) (fun k e => by cases e; decide)
theorem pM2c2a_any : AnyB 2920 2920 1461 2919 := run_any plansB2a2c_ok sums2c2a_ok pM2c2a_ok pm2c2a_ok (by decide) (fun k e => by cases e) (fun k e => by cases e; decide)
theorem pM1a1a_any : AnyB 1 1456 1 1456 := run_any plansB11_ok sums11_ok pM1a1a_ok pm11_ok (by decide) (fun k e => by cases e; decide) (fun k e => by cases e; decide)
theorem pM1a1c_any : AnyB 1 1456 1460 1460 := run_any plansB11_ok sums11_ok pM1a1c_ok pm11_ok (by decide) (fun k e => by cases e; decide) (fun k e => by cases e; decide)
theorem pM1c1c_any : AnyB 1460 1460 1460 1460 := run_any plansB11_ok sums11_ok pM1c1c_ok pm11_ok (by decide) (fun k e => by cases e; decide) (fun k e => by cases e; decide)
theorem pM2c1c_any : AnyB 2920 2920 1460 1460 := run_any plansB12c_ok sums2c1_ok pM2c1c_ok pm2c1_ok (by decide) (fun k e => by cases e) (fun k e => by cases e; decide)
theorem pM1c2a_any : AnyB 1460 1460 1461 2919 := run_any plansB12a_ok sums12a_ok pM1c2a_ok pm12a_ok (by decide) (fun k e => by cases e; decide) (fun k e => by cases e; decide)
theorem pM1c3a_any : AnyB 1460 1460 2921 4000 := run_any plansB13a_ok sums13a_ok pM1c3a_ok pm13a_ok (by decide) (fun k e => by cases e; decide) (fun k e => by cases e; decide)
theorem pM2c3a_any : AnyB 2920 2920 2921 4000 := run_any plansB2c3a_ok sums2c3a_ok pM2c3a_ok pm2c3a_ok (by decide) (fun k e => by cases e) (fun k e => by cases e; decide)
theorem pM1a1b_any : AnyB 1 1456 1457 1459 := run_any plansB11_ok sums11_ok pM1a1b_ok pm11_ok (by decide) (fun k e => by cases e; decide) (fun k e => by cases e; decide)
theorem pM1b1a_any : AnyB 1457 1459 1 1456 := run_any plansB11_ok sums11_ok pM1b1a_ok pm11_ok (by decide) (fun k e => by cases e; decide) (fun k e => by cases e; decide)
theorem pM1a2c_any : AnyB 1 1456 2920 2920 := run_any plansB12c_ok sums12c_ok pM1a2c_ok pm12c_ok (by decide) (fun k e => by cases e; decide) (fun k e => by cases e)
theorem pM2c2c_any : AnyB 2920 2920 2920 2920 := run_any plansB2c2c_ok sums2c2c_ok pM2c2c_ok pm2c2c_ok (by decide) (fun k e => by cases e) (fun k e => by cases e)
theorem split_a {la m m' ha lb hb : Int} (e : m' = m + 1) (h : AnyB la m lb hb) (k : AnyB m' ha lb hb) : AnyB la ha lb hb := by
  intro w a0 h0 r1 k1 h1 r2 k2 h2
  by_cases hc : (r1.n : Int) ≤ m
  · exact h w a0 h0 r1 k1 ⟨h1.1, hc⟩ r2 k2 h2
  · exact k w a0 h0 r1 k1 ⟨by omega, h1.2⟩ r2 k2 h2
theorem split_b {la m m' ha lb hb : Int} (e : m' = m + 1) (h : AnyB la ha lb m) (k : AnyB la ha m' hb) : AnyB la ha lb hb := by
  intro w a0 h0 r1 k1 h1 r2 k2 h2
  by_cases hc : (r2.n : Int) ≤ m
  · exact h w a0 h0 r1 k1 h1 r2 k2 ⟨h2.1, hc⟩
  · exact k w a0 h0 r1 k1 h1 r2 k2 ⟨by omega, h2.2⟩
theorem pM3a3a_any : AnyB 2921 4000 2921 4000 := split_a rfl (split_b rfl pM3l3l_any pM3l3h_any) (split_b rfl pM3h3l_any pM3h3h_any)

end Go.Proofs.YtfomfboennjfoaaGreat.worldBoth

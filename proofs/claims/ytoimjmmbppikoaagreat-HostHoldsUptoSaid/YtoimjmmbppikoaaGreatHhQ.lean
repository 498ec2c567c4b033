/-
  HostHolds: what is told behind the rounds.
-/
import Derived.Test.YtoimjmmbppikoaaGreatHhi
set_option linter.unusedVariables false
set_option linter.unusedSimpArgs false
namespace Go.Proofs.YtoimjmmbppikoaaGreat
open Go

noncomputable def postR (p : Pat) : R := ihM 3 (nat_lit 103) (lftC postC) (p.st [(.cmp .leq (.lit (.ofNat (nat_lit 0))) (.var 304), true)]) (p.ts (nat_lit 103)) (fun e s t => Ex.rec (motive := fun _ => R) (Bool.rec (motive := fun _ => R) (.fail 903) (t.getK 4 fun v => .done v ⟨.nil, nat_lit 0, ⟨s.pc.l, [], []⟩⟩) (isN (t.get 103))) (fun _ => .fail 900) (.fail 901) e)
theorem post_codeOk : codeOk plansJ 3 (lftC postC) = true := by kernel_rfl
noncomputable def ps0 : List (SB × Bool) := [((.cmp .lss (.bin .add .i64 (.bin .quo .i64 (.var 3) (.lit (.ofNat 20))) (.lit (.ofNat 11))) (.var 12)), true), (.cmp .leq (.lit (.ofNat (nat_lit 0))) (.var 304), true)]
noncomputable def ps1 : List (SB × Bool) := [((.cmp .lss (.var 304) (.bin .add .i64 (.var 12) (.var 8))), true), ((.cmp .lss (.bin .add .i64 (.bin .quo .i64 (.var 3) (.lit (.ofNat 20))) (.lit (.ofNat 11))) (.var 12)), false), (.cmp .leq (.lit (.ofNat (nat_lit 0))) (.var 304), true)]
noncomputable def ps2 : List (SB × Bool) := [((.cmp .eql (.var 10) (.var 304)), true), ((.cmp .lss (.var 304) (.bin .add .i64 (.var 12) (.var 8))), false), ((.cmp .lss (.bin .add .i64 (.bin .quo .i64 (.var 3) (.lit (.ofNat 20))) (.lit (.ofNat 11))) (.var 12)), false), (.cmp .leq (.lit (.ofNat (nat_lit 0))) (.var 304), true)]
noncomputable def ps3 : List (SB × Bool) := [((.cmp .eql (.var 10) (.var 304)), false), ((.cmp .lss (.var 304) (.bin .add .i64 (.var 12) (.var 8))), false), ((.cmp .lss (.bin .add .i64 (.bin .quo .i64 (.var 3) (.lit (.ofNat 20))) (.lit (.ofNat 11))) (.var 12)), false), (.cmp .leq (.lit (.ofNat (nat_lit 0))) (.var 304), true)]
noncomputable def PL : List (AV × List (SB × Bool)) := [(.bool (.lit false), ps0), (.bool (.lit false), ps1), (.bool (.lit true), ps2), (.bool (.lit false), ps3)]
theorem po0 : endsR (postR patP) [(.cmp .leq (.lit (.ofNat (nat_lit 0))) (.var 304), true)] = some PL := by kernel_rfl
theorem po1 : endsR (postR patS1) [(.cmp .leq (.lit (.ofNat (nat_lit 0))) (.var 304), true)] = some PL := by kernel_rfl
theorem po2 : endsR (postR patS2) [(.cmp .leq (.lit (.ofNat (nat_lit 0))) (.var 304), true)] = some PL := by kernel_rfl
theorem po3 : endsR (postR patS3) [(.cmp .leq (.lit (.ofNat (nat_lit 0))) (.var 304), true)] = some PL := by kernel_rfl
theorem po4 : endsR (postR patS4) [(.cmp .leq (.lit (.ofNat (nat_lit 0))) (.var 304), true)] = some PL := by kernel_rfl
theorem pl0 (ρ : Nat → Int) (n : Nat) (hn : n ≤ 300) (hb : Bnd ρ) (h10 : ρ 10 = n) (h812 : ρ 8 + ρ 12 ≤ n) (h14 : ρ 14 ≤ ρ 3) (h13 : ρ 13 + ρ 12 ≤ 10 + ρ 14 / 20) (h304 : ρ 304 = n) (hc : ∀ c ∈ ps0, c.1.ev ρ = c.2) : (AV.bool (.lit false)) = .bool (.lit true) := by
  exfalso
  obtain ⟨r1, r3, r4, r5, r6, r7, r8, r9, r10, r11, r12, r13, r14⟩ := hb
  have c0 : (ρ 3 / 20 + 11) < ρ 12 := lssT (addI (quoI rfl (by omega)) rfl (by omega)) rfl (hc _ mh)
  omega
theorem pl1 (ρ : Nat → Int) (n : Nat) (hn : n ≤ 300) (hb : Bnd ρ) (h10 : ρ 10 = n) (h812 : ρ 8 + ρ 12 ≤ n) (h14 : ρ 14 ≤ ρ 3) (h13 : ρ 13 + ρ 12 ≤ 10 + ρ 14 / 20) (h304 : ρ 304 = n) (hc : ∀ c ∈ ps1, c.1.ev ρ = c.2) : (AV.bool (.lit false)) = .bool (.lit true) := by
  exfalso
  obtain ⟨r1, r3, r4, r5, r6, r7, r8, r9, r10, r11, r12, r13, r14⟩ := hb
  have c0 : ¬ ((ρ 3 / 20 + 11) < ρ 12) := lssF (addI (quoI rfl (by omega)) rfl (by omega)) rfl (hc _ (mt mh))
  have c1 : ρ 304 < (ρ 12 + ρ 8) := lssT rfl (addI rfl rfl (by omega)) (hc _ mh)
  omega
theorem pl2 (ρ : Nat → Int) (n : Nat) (hn : n ≤ 300) (hb : Bnd ρ) (h10 : ρ 10 = n) (h812 : ρ 8 + ρ 12 ≤ n) (h14 : ρ 14 ≤ ρ 3) (h13 : ρ 13 + ρ 12 ≤ 10 + ρ 14 / 20) (h304 : ρ 304 = n) (hc : ∀ c ∈ ps2, c.1.ev ρ = c.2) : (AV.bool (.lit true)) = .bool (.lit true) := by
  rfl
theorem pl3 (ρ : Nat → Int) (n : Nat) (hn : n ≤ 300) (hb : Bnd ρ) (h10 : ρ 10 = n) (h812 : ρ 8 + ρ 12 ≤ n) (h14 : ρ 14 ≤ ρ 3) (h13 : ρ 13 + ρ 12 ≤ 10 + ρ 14 / 20) (h304 : ρ 304 = n) (hc : ∀ c ∈ ps3, c.1.ev ρ = c.2) : (AV.bool (.lit false)) = .bool (.lit true) := by
  exfalso
  obtain ⟨r1, r3, r4, r5, r6, r7, r8, r9, r10, r11, r12, r13, r14⟩ := hb
  have c0 : ¬ ((ρ 3 / 20 + 11) < ρ 12) := lssF (addI (quoI rfl (by omega)) rfl (by omega)) rfl (hc _ (mt (mt mh)))
  have c1 : ¬ (ρ 304 < (ρ 12 + ρ 8)) := lssF rfl (addI rfl rfl (by omega)) (hc _ (mt mh))
  have c2 : ¬ (ρ 10 = ρ 304) := eqlF rfl rfl (hc _ mh)
  omega
theorem pf : ∀ x ∈ PL, ∀ (ρ : Nat → Int) (n : Nat), n ≤ 300 → Bnd ρ → ρ 10 = n → ρ 8 + ρ 12 ≤ n → ρ 14 ≤ ρ 3 → ρ 13 + ρ 12 ≤ 10 + ρ 14 / 20 → ρ 304 = n → (∀ c ∈ x.2, c.1.ev ρ = c.2) → x.1 = .bool (.lit true) := by
  refine List.forall_mem_cons.2 ⟨pl0, ?_⟩
  refine List.forall_mem_cons.2 ⟨pl1, ?_⟩
  refine List.forall_mem_cons.2 ⟨pl2, ?_⟩
  refine List.forall_mem_cons.2 ⟨pl3, ?_⟩
  exact fun x hx => by cases hx
theorem pf0 : ∀ x ∈ PL, ∀ (ρ : Nat → Int) (n : Nat), n ≤ 300 → Inv patP ρ n n → ρ 304 = n → (∀ c ∈ x.2, c.1.ev ρ = c.2) → x.1 = .bool (.lit true) := fun x hx ρ n hn hI h4 hc => pf x hx ρ n hn (bnd0 hI.1) hI.2.2.2.2.1 hI.2.2.2.2.2.2.2.2.1 hI.2.2.2.2.2.2.2.2.2.2.1 hI.2.2.2.2.2.2.2.2.2.2.2 h4 hc
theorem pf1 : ∀ x ∈ PL, ∀ (ρ : Nat → Int) (n : Nat), n ≤ 300 → Inv patS1 ρ n n → ρ 304 = n → (∀ c ∈ x.2, c.1.ev ρ = c.2) → x.1 = .bool (.lit true) := fun x hx ρ n hn hI h4 hc => pf x hx ρ n hn (bnd1 hI.1) hI.2.2.2.2.1 hI.2.2.2.2.2.2.2.2.1 hI.2.2.2.2.2.2.2.2.2.2.1 hI.2.2.2.2.2.2.2.2.2.2.2 h4 hc
theorem pf2 : ∀ x ∈ PL, ∀ (ρ : Nat → Int) (n : Nat), n ≤ 300 → Inv patS2 ρ n n → ρ 304 = n → (∀ c ∈ x.2, c.1.ev ρ = c.2) → x.1 = .bool (.lit true) := fun x hx ρ n hn hI h4 hc => pf x hx ρ n hn (bnd2 hI.1) hI.2.2.2.2.1 hI.2.2.2.2.2.2.2.2.1 hI.2.2.2.2.2.2.2.2.2.2.1 hI.2.2.2.2.2.2.2.2.2.2.2 h4 hc
theorem pf3 : ∀ x ∈ PL, ∀ (ρ : Nat → Int) (n : Nat), n ≤ 300 → Inv patS3 ρ n n → ρ 304 = n → (∀ c ∈ x.2, c.1.ev ρ = c.2) → x.1 = .bool (.lit true) := fun x hx ρ n hn hI h4 hc => pf x hx ρ n hn (bnd3 hI.1) hI.2.2.2.2.1 hI.2.2.2.2.2.2.2.2.1 hI.2.2.2.2.2.2.2.2.2.2.1 hI.2.2.2.2.2.2.2.2.2.2.2 h4 hc
theorem pf4 : ∀ x ∈ PL, ∀ (ρ : Nat → Int) (n : Nat), n ≤ 300 → Inv patS4 ρ n n → ρ 304 = n → (∀ c ∈ x.2, c.1.ev ρ = c.2) → x.1 = .bool (.lit true) := fun x hx ρ n hn hI h4 hc => pf x hx ρ n hn (bnd4 hI.1) hI.2.2.2.2.1 hI.2.2.2.2.2.2.2.2.1 hI.2.2.2.2.2.2.2.2.2.2.1 hI.2.2.2.2.2.2.2.2.2.2.2 h4 hc
theorem postF : ∀ j, ∃ LL, endsR (postR (patN j)) [(.cmp .leq (.lit (.ofNat (nat_lit 0))) (.var 304), true)] = some LL ∧ ∀ x ∈ LL, ∀ (ρ : Nat → Int) (n : Nat), n ≤ 300 → Inv (patN j) ρ n n → ρ 304 = n → (∀ c ∈ x.2, c.1.ev ρ = c.2) → x.1 = .bool (.lit true)
  | 0 => ⟨_, po0, pf0⟩
  | 1 => ⟨_, po1, pf1⟩
  | 2 => ⟨_, po2, pf2⟩
  | 3 => ⟨_, po3, pf3⟩
  | _ + 4 => ⟨_, po4, pf4⟩

end Go.Proofs.YtoimjmmbppikoaaGreat

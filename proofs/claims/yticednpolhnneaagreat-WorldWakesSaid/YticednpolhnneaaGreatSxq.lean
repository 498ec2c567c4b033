/-
  A run reckoned ahead: regions that draw their order; code; calls.
-/
import Derived.Test.YticednpolhnneaaGreatSxp
set_option linter.unusedVariables false
set_option linter.unusedSimpArgs false
namespace Go.Proofs.YticednpolhnneaaGreat
open Go

mutual
theorem AV.beq_eq : ∀ (a b : AV), AV.beq a b = true → a = b
  | .int k a, b, h => by
    cases b <;> simp only [AV.beq, Bool.and_eq_true, decide_eq_true_eq, reduceCtorEq, Bool.false_eq_true] at h
    obtain ⟨rfl, h⟩ := h
    rw [SI.beq_eq _ _ h]
  | .bool a, b, h => by
    cases b <;> simp only [AV.beq, Bool.false_eq_true] at h
    rw [SB.beq_eq _ _ h]
  | .ptr i o, b, h => by
    cases b <;> simp only [AV.beq, Bool.and_eq_true, natBeq, decide_eq_true_eq, Bool.false_eq_true] at h
    rw [h.1, h.2]
  | .sl i o n c, b, h => by
    cases b <;> simp only [AV.beq, Bool.and_eq_true, natBeq, decide_eq_true_eq, Bool.false_eq_true] at h
    obtain ⟨h1, h2, h3, h4⟩ := h
    subst h1; subst h2; subst h3
    congr 1
    rename_i d
    cases c with
    | none => simp at h4; exact h4.symm
    | some c =>
      cases d with
      | none => simp [optEqN] at h4
      | some d => simp only [optEqN, natBeq, decide_eq_true_eq] at h4; rw [h4]
  | .emp i o n, b, h => by
    cases b <;> simp only [AV.beq, Bool.and_eq_true, natBeq, decide_eq_true_eq, Bool.false_eq_true] at h
    obtain ⟨h1, h2, h3⟩ := h
    rw [h1, h2, h3]
  | .em0 i o n, b, h => by
    cases b <;> simp only [AV.beq, Bool.and_eq_true, natBeq, decide_eq_true_eq, Bool.false_eq_true] at h
    obtain ⟨h1, h2, h3⟩ := h
    rw [h1, h2, h3]
  | .map i, b, h => by
    cases b <;> simp only [AV.beq, natBeq, decide_eq_true_eq, Bool.false_eq_true] at h
    rw [h]
  | .fn f a c, b, h => by
    cases b with
    | fn g d e =>
      cases f <;> cases g <;> simp only [AV.beq, Bool.and_eq_true, natBeq, decide_eq_true_eq, Bool.false_eq_true] at h
      obtain ⟨h1, h2, h3⟩ := h
      rw [h1, AV.beqL_eq a d h2, AV.beqL_eq c e h3]
    | _ => cases f <;> simp [AV.beq] at h
  | .iface t v, b, h => by
    cases b <;> simp only [AV.beq, Bool.and_eq_true, natBeq, decide_eq_true_eq, Bool.false_eq_true] at h
    rw [h.1, AV.beq_eq _ _ h.2]
  | .agg l, b, h => by
    cases b <;> simp only [AV.beq, Bool.false_eq_true] at h
    rw [AV.beqL_eq _ _ h]
  | .tup l, b, h => by
    cases b <;> simp only [AV.beq, Bool.false_eq_true] at h
    rw [AV.beqL_eq _ _ h]
  | .raw v, b, h => by
    cases b <;> simp only [AV.beq, Bool.false_eq_true] at h
    split at h
    · rfl
    · simp only [Bool.and_eq_true, natBeq, decide_eq_true_eq] at h; rw [h.1, h.2]
    · rfl
    · rfl
    · rfl
    · rename_i a b
      obtain ⟨⟨x⟩⟩ := a
      obtain ⟨⟨y⟩⟩ := b
      have h : x = y := by simpa using h
      rw [h]
    · cases h
  | .opq v, b, h => by cases b <;> simp [AV.beq] at h
  | .osl p k c, b, h => by
    cases b <;> simp only [AV.beq, Bool.and_eq_true, natBeq, decide_eq_true_eq, Bool.false_eq_true] at h
    obtain ⟨rfl, rfl, rfl⟩ := h
    rfl
  | .ssl i a c e d, b, h => by
    cases b <;> simp only [AV.beq, Bool.and_eq_true, natBeq, decide_eq_true_eq, Bool.false_eq_true] at h
    obtain ⟨h1, h2, h3, h4, h5⟩ := h
    subst h1
    rw [SI.beq_eq _ _ h2, SI.beq_eq _ _ h3, SI.beq_eq _ _ h4]
    congr 1
    rename_i d'
    cases d with
    | none => simp at h5; exact h5.symm
    | some x =>
      cases d' with
      | none => simp at h5
      | some y => exact congrArg some (SI.beq_eq _ _ h5)
  | .fsl i a c e, b, h => by
    cases b <;> simp only [AV.beq, Bool.and_eq_true, natBeq, decide_eq_true_eq, Bool.false_eq_true] at h
    obtain ⟨h1, h2, h3, h4⟩ := h
    rw [h1, SI.beq_eq _ _ h2, SI.beq_eq _ _ h3, SI.beq_eq _ _ h4]
  | .dfr f a r, b, h => by cases b <;> simp [AV.beq] at h
theorem AV.beqL_eq : ∀ (a b : List AV), AV.beqL a b = true → a = b
  | [], b, h => by cases b <;> simp [AV.beqL] at h; rfl
  | v :: l, b, h => by
    cases b with
    | nil => simp [AV.beqL] at h
    | cons u m =>
      simp only [AV.beqL, Bool.and_eq_true] at h
      rw [AV.beq_eq v u h.1, AV.beqL_eq l m h.2]
end

section
variable {P : Program} {ρ : Nat → Int} {w0 : Base} {D : Dn}

theorem evQs_sound {ops : Array Oper} {sz : Nat} {h : Tr AObj} : ∀ {l : List Oper} {m : Asm} {t : Ts} {pc : PC} {κ : Ts → PC → R}, AsmOk ρ ops m t pc → evQs P ops sz h l m t pc κ ∈ D → ∃ t' pc', κ t' pc' ∈ D ∧ PcExt pc pc' ∧ Keeps sz l t t' ∧ ∀ {φ a}, Holds ρ pc' → GA φ ρ t sz a →
    ∀ (C : World → Prop), (∀ w, C w → Hp P φ ρ h w) → (∃ w, C w) → ∀ (N : Act → Prop), (∀ a', GA φ ρ t' sz a' → N a') → wpQuiet P ops C N l a
  | [], m, t, pc, κ, _, hD => ⟨t, pc, hD, .refl _, fun _ _ _ => rfl, fun {φ a} _ hg C _ _ N hN => hN a hg⟩
  | o :: l, m, t, pc, κ, ha, hD => by
    have hD : wantK ops t pc m (qW P sz h o t fun m t pc => evQs P ops sz h l m t pc κ) o.guard ∈ D := hD
    obtain ⟨m1, b, pc1, h1, x1, a1, hs, hb⟩ := wantK_inv (ρ := ρ) ha hD
    unfold qW at h1
    rcases brec_cases h1 with ⟨rfl, h2⟩ | ⟨rfl, h2⟩ <;> rw [hs] at h2
    · obtain ⟨v, pc2, h3, x2, h4⟩ := evQ_sound h2
      obtain ⟨t1, h5, h6, a2, k1⟩ := putK_inv' (ρ := ρ) h3
      obtain ⟨t2, pc3, h7, x3, k2, h8⟩ := evQs_sound (a2 (a1.ext x2)) h5
      refine ⟨t2, pc3, h7, x1.trans (x2.trans x3), fun e he hd => (k2 e (he.imp id fun h o ho => h o (List.mem_cons_of_mem _ ho)) fun o ho => hd o (List.mem_cons_of_mem _ ho)).trans (k1 e (hd o (List.mem_cons_self ..))), fun {φ a} hρ hg C hC hne N hN => ?_⟩
      obtain ⟨w1, hw1⟩ := hne
      obtain ⟨x, hx, hr1⟩ := h4 (hρ.of_ext x3) hg (hC w1 hw1)
      unfold wpQuiet
      rw [if_pos (hb (hρ.of_ext (x2.trans x3)) hg)]
      refine ⟨x, fun w hw => ?_, h8 hρ (h6 hg hx) C hC ⟨w1, hw1⟩ N hN⟩
      obtain ⟨x', hx', hr⟩ := h4 (hρ.of_ext x3) hg (hC w hw)
      rw [hx] at hx'; cases hx'
      unfold Oper.quietAt
      rw [hr o rfl]
      exact ⟨rfl, rfl⟩
    · obtain ⟨t1, h5, h6, a2, k1⟩ := putK_inv' (ρ := ρ) h2
      obtain ⟨t2, pc3, h7, x3, k2, h8⟩ := evQs_sound (a2 a1) h5
      refine ⟨t2, pc3, h7, x1.trans x3, fun e he hd => (k2 e (he.imp id fun h o ho => h o (List.mem_cons_of_mem _ ho)) fun o ho => hd o (List.mem_cons_of_mem _ ho)).trans (k1 e (hd o (List.mem_cons_self ..))), fun {φ a} hρ hg C hC hne N hN => ?_⟩
      unfold wpQuiet
      rw [if_neg (by rw [hb (hρ.of_ext x3) hg]; simp)]
      exact h8 hρ (h6 hg rfl) C hC hne N hN

theorem holdsK_inv {t : Ts} {d : Option Tmp} {v : AV} {κ : R} (hD : holdsK t d v κ ∈ D) : κ ∈ D ∧ ∀ {φ sz a x}, GA φ ρ t sz a → conc φ ρ v = some x → a.put d x = a := by
  cases d with
  | none => exact ⟨hD, fun _ _ => rfl⟩
  | some d =>
    obtain ⟨u, hu, hD⟩ := getK_inv (show t.getK d (fun u => Bool.rec (motive := fun _ => R) (.fail 171) κ (AV.beq u v)) ∈ D from hD)
    obtain ⟨hb, h1⟩ := brec_inv hD
    refine ⟨h1, fun {φ sz a x} hg hx => ?_⟩
    have := hg.tm d u hu
    rw [AV.beq_eq _ _ hb, hx] at this
    have this := Option.some.inj this
    cases a with
    | mk tmps defers =>
      simp only [Act.put, Act.mk.injEq, and_true]
      apply Array.ext_getElem?
      intro i
      by_cases e : d = i
      · subst e
        rcases Nat.lt_or_ge d tmps.size with h | h
        · rw [Array.getElem?_setIfInBounds_self_of_lt h, Array.getElem?_eq_getElem h, this]
          simp [Array.getD, h]
        · rw [Array.getElem?_eq_none (by simpa using h), Array.getElem?_eq_none h]
      · rw [Array.getElem?_setIfInBounds_ne e]

theorem again_sound {ops : Array Oper} {h : Tr AObj} {t : Ts} : ∀ {l : List Oper} {m : Asm} {pc : PC} {κ : PC → R}, AsmOk ρ ops m t pc → again P ops h t l m pc κ ∈ D → ∃ pc', κ pc' ∈ D ∧ PcExt pc pc' ∧ ∀ {φ sz a}, Holds ρ pc' → GA φ ρ t sz a →
    ∀ (C : World → Prop), (∀ w, C w → Hp P φ ρ h w) → (∃ w, C w) → wpQuiet P ops C (fun a' => a' = a) l a
  | [], m, pc, κ, _, hD => ⟨pc, hD, .refl _, fun {φ sz a} _ hg C _ _ => rfl⟩
  | o :: l, m, pc, κ, ha, hD => by
    have hD : wantK ops t pc m (agK P h o t fun m pc => again P ops h t l m pc κ) o.guard ∈ D := hD
    obtain ⟨m1, b, pc1, h1, x1, a1, hs, hb⟩ := wantK_inv (ρ := ρ) ha hD
    unfold agK at h1
    rcases brec_cases h1 with ⟨rfl, h2⟩ | ⟨rfl, h2⟩ <;> rw [hs] at h2
    · obtain ⟨v, pc2, h3, x2, h4⟩ := evQ_sound h2
      obtain ⟨h5, h6⟩ := holdsK_inv (ρ := ρ) h3
      obtain ⟨pc3, h7, x3, h8⟩ := again_sound (a1.ext x2) h5
      refine ⟨pc3, h7, x1.trans (x2.trans x3), fun {φ sz a} hρ hg C hC hne => ?_⟩
      obtain ⟨w1, hw1⟩ := hne
      obtain ⟨x, hx, hr1⟩ := h4 (hρ.of_ext x3) hg (hC w1 hw1)
      unfold wpQuiet
      rw [if_pos (hb (hρ.of_ext (x2.trans x3)) hg)]
      refine ⟨x, fun w hw => ?_, ?_⟩
      · obtain ⟨x', hx', hr⟩ := h4 (hρ.of_ext x3) hg (hC w hw)
        rw [hx] at hx'; cases hx'
        unfold Oper.quietAt
        rw [hr o rfl]
        exact ⟨rfl, rfl⟩
      · rw [h6 hg hx]
        exact h8 hρ hg C hC ⟨w1, hw1⟩
    · obtain ⟨h5, h6⟩ := holdsK_inv (ρ := ρ) h2
      obtain ⟨pc3, h7, x3, h8⟩ := again_sound a1 h5
      refine ⟨pc3, h7, x1.trans x3, fun {φ sz a} hρ hg C hC hne => ?_⟩
      unfold wpQuiet
      rw [if_neg (by rw [hb (hρ.of_ext x3) hg]; simp), h6 hg (x := undef) rfl]
      exact h8 hρ hg C hC hne

theorem Gm.drewN {φ : List Pl} {s : St} {w : World} (hm : Gm P ρ w0 φ s w) (n : Nat) : Gm P ρ w0 φ s (w.drewN n) := hm.world (hm.kp.drewN n) (Nat.le_refl _) (fun _ _ _ _ _ _ => rfl) (fun _ _ _ _ => rfl)

theorem evMix_sound {ops : Array Oper} {call : CallT} (hc : CallSound P ρ call) {sz : Nat} : ∀ {p : Plan} {s : St} {t : Ts} {κ : RK}, evMix P ops call sz p s t κ ∈ D → ∃ s' t', κ s' t' ∈ D ∧ PcExt s.pc s'.pc ∧ ∀ {w0 φ a w}, Holds ρ s'.pc → GA φ ρ t sz a → Gm P ρ w0 φ s w →
    ∀ (Q : Exit → Act → World → Prop), (∀ φ' a' w', φ <+: φ' → GA φ' ρ t' sz a' → Gm P ρ w0 φ' s' w' → Q .normal a' w') → mixWP P ops Q p a w
  | [], s, t, κ, hD => ⟨s, t, hD, .refl _, fun {w0 φ a w} _ hg hm Q hQ => hQ φ a w (List.prefix_refl _) hg hm⟩
  | (b, e, k) :: rest, s, t, κ, hD => by
    have hD : evPart P ops call sz (b, e, k) s t (fun s t => evMix P ops call sz rest s t κ) ∈ D := hD
    unfold evPart at hD
    have hD : evQs P ops sz s.hp (pick ops b) .no t s.pc (fun t pc => evOps P ops call sz (pick ops e) .no ⟨s.hp, s.nx, pc⟩ t (agnK P ops k fun s t => evMix P ops call sz rest s t κ)) ∈ D := by cases s; exact hD
    obtain ⟨t1, pc1, h1, x1, _, q1⟩ := evQs_sound (ρ := ρ) (m := .no) trivial hD
    obtain ⟨s2, t2, h2, x2, _, q2⟩ := evOps_sound hc (m := .no) trivial h1
    unfold agnK at h2
    have h2 : again P ops s2.hp t2 (pick ops k) .no s2.pc (fun pc => evMix P ops call sz rest ⟨s2.hp, s2.nx, pc⟩ t2 κ) ∈ D := by cases s2; exact h2
    obtain ⟨pc3, h3, x3, q3⟩ := again_sound (ρ := ρ) (m := .no) trivial h2
    obtain ⟨s4, t4, h4, x4, q4⟩ := evMix_sound hc h3
    refine ⟨s4, t4, h4, x1.trans (x2.trans (x3.trans x4)), fun {w0 φ a w} hρ hg hm Q hQ => ?_⟩
    unfold mixWP
    refine q1 (hρ.of_ext (x2.trans (x3.trans x4))) hg (Dr w) (fun w' ⟨n, hn⟩ => by rw [hn]; exact (hm.drewN n).hp) ⟨w, Dr.self w⟩ _ fun a1 hg1 n => ?_
    refine q2 (hρ.of_ext (x3.trans x4)) hg1 ((hm.drewN n).pc pc1) _ fun φ2 a2 w2 p2 hg2 hm2 => ?_
    refine ⟨q3 (hρ.of_ext x4) hg2 (fun w' => ∃ n, w' = w2.drewN n) (fun w' ⟨n, hn⟩ => by rw [hn]; exact (hm2.drewN n).hp) ⟨w2, 0, rfl⟩, ?_⟩
    exact q4 hρ hg2 (hm2.pc pc3) Q fun φ3 a3 w3 p3 hg3 hm3 => hQ φ3 a3 w3 (p2.trans p3) hg3 hm3
end

end Go.Proofs.YticednpolhnneaaGreat

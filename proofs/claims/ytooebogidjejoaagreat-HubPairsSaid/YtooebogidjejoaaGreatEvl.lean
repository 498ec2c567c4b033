/-
  Pieces of code, one behind the other; the ends of a run.
-/
import Derived.Test.YtooebogidjejoaaGreatCf
set_option linter.unusedVariables false
set_option linter.unusedSimpArgs false
namespace Go.Proofs.YtooebogidjejoaaGreat
open Go

noncomputable def isN {α : Type} (o : Option α) : Bool := Option.rec (motive := fun _ => Bool) true (fun _ => false) o
theorem isN_iff {α : Type} {o : Option α} : isN o = true ↔ o = none := by cases o <;> simp [isN]
/-! code, one behind the other -/
noncomputable section
def evL (ih : EvT) (f sz : Nat) (l : List Code) : St → Ts → K → R := List.rec (motive := fun _ => St → Ts → K → R) (fun s t κ => κ .normal s t) (fun c _ r s t κ => ih f sz c s t fun e s t => Ex.rec (motive := fun _ => R) (r s t κ) (fun i => κ (.exit i) s t) (κ .ret s t) e) l
def seqs (l : List Code) (k : Code) : Code := List.rec (motive := fun _ => Code) k (fun c _ ih => .seq c ih) l
def lftC (c : Code) : Code := match c with
  | .seq a _ => a
  | c => c
def rgtC (c : Code) : Code := match c with
  | .seq _ b => b
  | c => c
def innC (c : Code) : Code := match c with
  | .loop b => b
  | .block _ b => b
  | c => c
end
theorem evL_sound {P : Program} {ρ : Nat → Int} {pl : Plans} {ih : EvT} (hih : CodeSound P ρ pl ih) {f sz : Nat} : ∀ {l : List Code} {s : St} {t : Ts} {κ : K} {D : Dn}, (∀ c ∈ l, codeOk pl f c = true) → evL ih f sz l s t κ ∈ D →
    ∃ e s' t', κ e s' t' ∈ D ∧ PcExt s.pc s'.pc ∧ ∀ {w0 φ a w}, Holds ρ s'.pc → GA φ ρ t sz a → Gm P ρ w0 φ s w → ∀ (k : Code) (Q : Exit → Act → World → Prop), (∀ a' w', Post P ρ w0 φ sz e s' t' (exOf e) a' w' → Exit.then (fun a w => k.wp P Q a w) Q (exOf e) a' w') → (seqs l k).wp P Q a w
  | [], s, t, κ, D, _, h => ⟨.normal, s, t, h, .refl _, fun _ hg hm k Q hq => hq _ _ (Post.mk (List.prefix_refl _) hg hm)⟩
  | c :: l, s, t, κ, D, hok, h => by
    have h : ih f sz c s t (fun e s t => Ex.rec (motive := fun _ => R) (evL ih f sz l s t κ) (fun i => κ (.exit i) s t) (κ .ret s t) e) ∈ D := h
    obtain ⟨e1, s1, t1, h1, x1, h2⟩ := hih (hok c (by simp)) h
    have other : ∀ e2 : Ex, e2 ≠ .normal → e1 = e2 → κ e2 s1 t1 ∈ D → ∃ e s' t', κ e s' t' ∈ D ∧ PcExt s.pc s'.pc ∧ ∀ {w0 φ a w}, Holds ρ s'.pc → GA φ ρ t sz a → Gm P ρ w0 φ s w → ∀ (k : Code) (Q : Exit → Act → World → Prop), (∀ a' w', Post P ρ w0 φ sz e s' t' (exOf e) a' w' → Exit.then (fun a w => k.wp P Q a w) Q (exOf e) a' w') → (seqs (c :: l) k).wp P Q a w := by
      intro e2 hne he hk
      subst he
      refine ⟨e1, s1, t1, hk, x1, fun {w0 φ a w} hρ hg hm k Q hq => wp_seq (Code.wp_mono (fun e' a' w' hp => ?_) (h2 hρ hg hm))⟩
      have he' : e' = exOf e1 := hp.1
      subst he'
      have := hq a' w' hp
      cases e1 with
      | normal => exact absurd rfl hne
      | exit i => exact this
      | ret => exact this
    cases e1 with
    | normal =>
      obtain ⟨e, s', t', h3, x2, h4⟩ := evL_sound hih (fun c hc => hok c (by simp [hc])) (show evL ih f sz l s1 t1 κ ∈ D from h1)
      refine ⟨e, s', t', h3, x1.trans x2, fun {w0 φ a w} hρ hg hm k Q hq => wp_seq (Code.wp_mono (fun e' a' w' hp => ?_) (h2 (hρ.of_ext x2) hg hm))⟩
      obtain ⟨rfl, φ', p1, g1, m1⟩ := hp
      exact h4 hρ g1 m1 k Q fun a2 w2 hp2 => hq a2 w2 (Post.pre p1 hp2)
    | exit i => exact other (.exit i) (by intro h; cases h) rfl h1
    | ret => exact other .ret (by intro h; cases h) rfl h1
/-! the ends of a run -/
noncomputable section
/-- each end: what it gives, what was decided on the way there; none where it fails -/
def endsR (r : R) : List (SB × Bool) → Option (List (AV × List (SB × Bool))) := R.rec (motive := fun _ => List (SB × Bool) → Option (List (AV × List (SB × Bool)))) (fun v s acc => Bool.rec none (some [(v, acc)]) (s.pc.l.all fun x => acc.any fun y => SB.beq x.1 y.1 && (x.2 == y.2))) (fun _ _ => none) (fun _ => none)
  (fun c _ _ a b acc => Option.rec none (fun la => Option.rec none (fun lb => some (la ++ lb)) (b ((c, false) :: acc))) (a ((c, true) :: acc))) r
end
theorem endsR_inv {ρ : Nat → Int} : ∀ (r : R) {acc : List (SB × Bool)} {L : List (AV × List (SB × Bool))}, endsR r acc = some L → (∀ x ∈ acc, x.1.ev ρ = x.2) → ∃ V S l, r ∈ Dn.mk ρ V S ∧ (V, l) ∈ L ∧ (∀ x ∈ l, x.1.ev ρ = x.2) ∧ ∀ x ∈ S.pc.l, x.1.ev ρ = x.2 := by
  intro r
  induction r with
  | done v s =>
    intro acc L h ha
    have h : (Bool.rec none (some [(v, acc)]) (s.pc.l.all fun x => acc.any fun y => SB.beq x.1 y.1 && (x.2 == y.2)) : Option (List (AV × List (SB × Bool)))) = some L := h
    cases hb : (s.pc.l.all fun x => acc.any fun y => SB.beq x.1 y.1 && (x.2 == y.2)) with
    | false => rw [hb] at h; cases h
    | true =>
      rw [hb] at h
      cases h
      refine ⟨v, s, acc, ⟨rfl, rfl⟩, by simp, ha, fun x hx => ?_⟩
      have := List.all_eq_true.1 hb x hx
      obtain ⟨y, hy, he⟩ := List.any_eq_true.1 this
      rw [Bool.and_eq_true, beq_iff_eq] at he
      rw [SB.beq_eq _ _ he.1, he.2]
      exact ha y hy
  | fail n => intro acc L h; cases h
  | dead => intro acc L h; cases h
  | fork c a b iha ihb =>
    intro acc L h ha
    have h : (Option.rec none (fun la => Option.rec none (fun lb => some (la ++ lb)) (endsR b ((c, false) :: acc))) (endsR a ((c, true) :: acc)) : Option (List (AV × List (SB × Bool)))) = some L := h
    cases h1 : endsR a ((c, true) :: acc) with
    | none => rw [h1] at h; cases h
    | some la =>
      cases h2 : endsR b ((c, false) :: acc) with
      | none => rw [h1, h2] at h; cases h
      | some lb =>
        rw [h1, h2] at h
        cases h
        cases hc : c.ev ρ with
        | true =>
          obtain ⟨V, S, l, e1, e2, e3, e4⟩ := iha h1 (fun x hx => by
            rcases List.mem_cons.1 hx with rfl | hx
            · exact hc
            · exact ha x hx)
          exact ⟨V, S, l, .inl ⟨hc, e1⟩, List.mem_append_left _ e2, e3, e4⟩
        | false =>
          obtain ⟨V, S, l, e1, e2, e3, e4⟩ := ihb h2 (fun x hx => by
            rcases List.mem_cons.1 hx with rfl | hx
            · exact hc
            · exact ha x hx)
          exact ⟨V, S, l, .inr ⟨hc, e1⟩, List.mem_append_right _ e2, e3, e4⟩
end Go.Proofs.YtooebogidjejoaaGreat

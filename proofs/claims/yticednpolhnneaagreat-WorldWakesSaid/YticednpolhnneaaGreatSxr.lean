/-
  A run reckoned ahead: code and calls; a whole call does what was reckoned.
-/
import Derived.Test.YticednpolhnneaaGreatSfl
import Derived.Scope
set_option linter.unusedVariables false
set_option linter.unusedSimpArgs false
namespace Go.Proofs.YticednpolhnneaaGreat
open Go

/-! a loop, one round of it -/
theorem exitTo_len {id : Nat} : ∀ {k k' : List Item}, exitTo id k = some k' → k'.length < k.length
  | [], k', h => by simp [exitTo] at h
  | x :: k, k', h => by
    have : exitTo id (x :: k) = some k' → k'.length < k.length + 1 := by
      intro h
      cases x with
      | inBlock id' =>
        simp only [exitTo] at h
        split at h
        · cases h; omega
        · have := exitTo_len h; omega
      | _ => simp only [exitTo] at h; have := exitTo_len h; omega
    simpa using this h
theorem steps_other {P : Program} {m m' x t : Machine} (h1 : step P m = .next x) (h2 : step P m' = .next x) (h : Steps P m t) (hne : t ≠ m) : Steps P m' t := by
  obtain ⟨n, hn⟩ := h
  cases n with
  | zero => simp only [runN, Stepped.next.injEq] at hn; exact absurd hn.symm hne
  | succ n =>
    refine .head h2 ⟨n, ?_⟩
    simp only [runN, h1] at hn
    exact hn
theorem lone_ne {fr fr' : Frame} {cs : List Frame} {w w' : World} (h : fr.todo.length ≠ fr'.todo.length ∨ fr.mode ≠ fr'.mode) : lone fr cs w ≠ lone fr' cs w' := by
  intro e
  simp only [lone, Machine.mk.injEq, Array.mk.injEq, List.cons.injEq, Goroutine.mk.injEq] at e
  have : fr = fr' := by
    have := e.2.1
    simp at this
    exact this
  subst this
  rcases h with h | h <;> exact h rfl
theorem wp_loop_unroll {P : Program} {c : Code} {Q : Exit → Act → World → Prop} {a : Act} {w : World} (hout : ∀ a w, ¬ Q .outgrown a w) (hgo : ∀ l a w, ¬ Q (.goto l) a w)
    (h : c.wp P (Exit.then (fun a' w' => (Code.loop c).wp P Q a' w') Q) a w) : (Code.loop c).wp P Q a w := by
  intro b k cs
  obtain ⟨e, a1, w1, hq, harr⟩ := h b (.inLoop c :: k) cs
  cases e with
  | normal =>
    obtain ⟨e2, a2, w2, hq2, harr2⟩ := hq b k cs
    refine ⟨e2, a2, w2, hq2, ?_⟩
    have s1 : step P (lone (b.at a1 (.code (.loop c) :: k)) cs w1) = .next (lone (b.at a1 (.code c :: .inLoop c :: k)) cs w1) := step_loop
    have s2 : step P (lone (b.at a1 (.inLoop c :: k)) cs w1) = .next (lone (b.at a1 (.code c :: .inLoop c :: k)) cs w1) := step_inLoop
    have pre : Steps P (lone (b.at a (.code (.loop c) :: k)) cs w) (lone (b.at a1 (.inLoop c :: k)) cs w1) := .head step_loop harr
    refine .of_steps pre ?_
    cases e2 with
    | normal => exact steps_other s1 s2 harr2 (lone_ne (.inl (by simp [Frame.at])))
    | exit id => exact fun k' hk => steps_other s1 s2 (harr2 k' hk) (lone_ne (.inl (by have := exitTo_len hk; simp [Frame.at]; omega)))
    | goto l => exact (hgo l a2 w2 hq2).elim
    | ret => obtain ⟨todo, hs⟩ := harr2; exact ⟨todo, steps_other s1 s2 hs (lone_ne (.inr (by simp [Frame.at])))⟩
    | panic ch => obtain ⟨todo, hs⟩ := harr2; exact ⟨todo, steps_other s1 s2 hs (lone_ne (.inr (by simp [Frame.at])))⟩
    | outgrown => exact (hout a2 w2 hq2).elim
  | exit id => exact ⟨_, a1, w1, hq, .of_steps (.one step_loop) (.pass (x := .inLoop c) rfl (fun _ _ => .inl (by simp)) harr)⟩
  | goto l => exact (hgo l a1 w1 hq).elim
  | ret => exact ⟨_, a1, w1, hq, .of_steps (.one step_loop) (.pass (x := .inLoop c) rfl (fun _ _ => .inl (by simp)) harr)⟩
  | panic ch => exact ⟨_, a1, w1, hq, .of_steps (.one step_loop) (.pass (x := .inLoop c) rfl (fun _ _ => .inl (by simp)) harr)⟩
  | outgrown => exact (hout a1 w1 hq).elim

section
variable {P : Program} {ρ : Nat → Int} {w0 : Base} {pl : Plans}

/-- the plans serve the regions of a function's code -/
def codeOk (pl : Plans) (f : FuncId) : Code → Bool
  | .region id ops draw => !draw || (match pl.pl f id with | some p => mixOk ops p || flOk ops p | none => true)
  | .seq a b => codeOk pl f a && codeOk pl f b
  | .cond _ a b => codeOk pl f a && codeOk pl f b
  | .block _ c => codeOk pl f c
  | .loop c => codeOk pl f c
  | .scope c => codeOk pl f c
  | _ => true

def exOf : Ex → Exit
  | .normal => .normal
  | .exit id => .exit id
  | .ret => .ret
/-- where code comes out -/
def Post (P : Program) (ρ : Nat → Int) (w0 : Base) (φ : List Pl) (sz : Nat) (e : Ex) (s' : St) (t' : Ts) (e' : Exit) (a' : Act) (w' : World) : Prop := e' = exOf e ∧ ∃ φ', φ <+: φ' ∧ GA φ' ρ t' sz a' ∧ Gm P ρ w0 φ' s' w'
theorem Post.mk {φ φ' : List Pl} {sz : Nat} {e : Ex} {s' : St} {t' : Ts} {a' : Act} {w' : World} (h1 : φ <+: φ') (h2 : GA φ' ρ t' sz a') (h3 : Gm P ρ w0 φ' s' w') : Post P ρ w0 φ sz e s' t' (exOf e) a' w' := ⟨rfl, φ', h1, h2, h3⟩
theorem Post.pre {φ φ1 : List Pl} {sz : Nat} {e : Ex} {s' : St} {t' : Ts} {e' : Exit} {a' : Act} {w' : World} (h : φ <+: φ1) (hp : Post P ρ w0 φ1 sz e s' t' e' a' w') : Post P ρ w0 φ sz e s' t' e' a' w' := by
  obtain ⟨h0, φ', h1, h2, h3⟩ := hp
  exact ⟨h0, φ', h.trans h1, h2, h3⟩

def CodeSound (P : Program) (ρ : Nat → Int) (pl : Plans) (ih : EvT) : Prop := ∀ {f sz : Nat} {c : Code} {s : St} {t : Ts} {κ : K} {D : Dn}, codeOk pl f c = true → ih f sz c s t κ ∈ D →
  ∃ e s' t', κ e s' t' ∈ D ∧ PcExt s.pc s'.pc ∧ ∀ {w0 φ a w}, Holds ρ s'.pc → GA φ ρ t sz a → Gm P ρ w0 φ s w → c.wp P (Post P ρ w0 φ sz e s' t') a w

/-! calls -/
def resOne (tmps : Array Value) : ResultVar → Sem Value
  | .tmp t => pure (tmps.getD t undef)
  | .cell a t => do loadVar t (← asAddr (tmps.getD a undef))
theorem results_eq (fn : Func) (tmps : Array Value) : results fn tmps = (do
  let vs ← fn.results.mapM (resOne tmps)
  pure (if h : vs.size = 1 then vs[0] else .tuple vs)) := by
  unfold results
  congr 1
  try (congr 1; funext x; cases x <;> rfl)
theorem resL_sound {D : Dn} {h : Tr AObj} {t : Ts} : ∀ {rs : List ResultVar} {κ : List AV → R}, resL P h t rs κ ∈ D → ∃ l, κ l ∈ D ∧ l.length = rs.length ∧ ∀ {φ sz a w}, GA φ ρ t sz a → Hp P φ ρ h w → ∃ xs, concL φ ρ l = some xs ∧
    (rs.mapM (resOne a.tmps)).run P w = .ok xs w
  | [], κ, hD => ⟨[], hD, rfl, fun _ _ => ⟨[], rfl, rfl⟩⟩
  | .tmp d :: rs, κ, hD => by
    have hD : opd t (.tmp d) (fun v => resL P h t rs fun l => κ (v :: l)) ∈ D := hD
    obtain ⟨v, h1, hv⟩ := opd_inv hD
    obtain ⟨l, h2, hl, h3⟩ := resL_sound h1
    refine ⟨v :: l, h2, by simp [hl], fun {φ sz a w} hg hp => ?_⟩
    obtain ⟨xs, q1, q2⟩ := h3 hg hp
    refine ⟨_, concL_cons.2 ⟨_, _, hv hg, q1, rfl⟩, ?_⟩
    rw [List.mapM_cons, Sem.run_bind]
    simp only [resOne, Sem.run_pure, Result.andThen_ok, Sem.run_bind, q2]
    rfl
  | .cell d T :: rs, κ, hD => by
    have hD : opd t (.tmp d) (fun a => loadA P h T a fun v => resL P h t rs fun l => κ (v :: l)) ∈ D := hD
    obtain ⟨v, h1, hv⟩ := opd_inv hD
    obtain ⟨u, h2, hu⟩ := load_sound h1
    obtain ⟨l, h3, hl, h4⟩ := resL_sound h2
    refine ⟨u :: l, h3, by simp [hl], fun {φ sz a w} hg hp => ?_⟩
    obtain ⟨xs, q1, q2⟩ := h4 hg hp
    obtain ⟨y, y1, y2⟩ := hu hp (hv hg)
    refine ⟨_, concL_cons.2 ⟨_, _, y1, q1, rfl⟩, ?_⟩
    have hrun : (resOne a.tmps (.cell d T)).run P w = .ok y w := by
      show (do loadVar T (← asAddr (a.tmps.getD d undef)) : Sem Value).run P w = .ok y w
      have y2 : (Instr.loadAt T (a.tmps.getD d undef)).run P w = .ok y w := y2
      generalize a.tmps.getD d undef = z at y2 ⊢
      cases z with
      | pointer p =>
        cases p with
        | none => simp [Instr.loadAt, Instr.sureAddr, Sem.run_bind, stuck, Sem.run, Result.andThen] at y2
        | some p => exact y2
      | _ => simp [Instr.loadAt, Instr.sureAddr, Sem.run_bind, stuck, Sem.run, Result.andThen] at y2
    rw [List.mapM_cons, Sem.run_bind]
    simp only [hrun, Result.andThen_ok, Sem.run_bind, q2, Sem.run_pure]
theorem retR_sound {D : Dn} {fn : Func} {s : St} {t : Ts} {κ : AV → St → R} (hD : retR P fn.results.toList κ s t ∈ D) : ∃ v, κ v s ∈ D ∧ ∀ {w0 φ sz a w}, GA φ ρ t sz a → Gm P ρ w0 φ s w → ∃ x, conc φ ρ v = some x ∧ (results fn a.tmps).run P w = .ok x w := by
  unfold retR at hD
  obtain ⟨l, h1, hl, h2⟩ := resL_sound (ρ := ρ) hD
  unfold resK at h1
  split at h1
  · rename_i v
    refine ⟨v, h1, fun {w0 φ sz a w} hg hm => ?_⟩
    obtain ⟨xs, q1, q2⟩ := h2 hg hm.hp
    obtain ⟨x, ys, e1, e2, rfl⟩ := concL_cons.1 q1
    simp only [concL, Option.some.injEq] at e2
    subst e2
    refine ⟨x, e1, ?_⟩
    rw [results_eq, Array.mapM_eq_mapM_toList, Sem.run_bind, Sem.run_map, q2]
    rfl
  · rename_i hne
    refine ⟨_, h1, fun {w0 φ sz a w} hg hm => ?_⟩
    obtain ⟨xs, q1, q2⟩ := h2 hg hm.hp
    refine ⟨.tuple xs.toArray, by simp [conc, q1], ?_⟩
    have hxl : xs.length ≠ 1 := by
      rw [concL_length q1]
      intro h
      obtain ⟨v, rfl⟩ := List.length_eq_one_iff.1 h
      exact hne v rfl
    rw [results_eq, Array.mapM_eq_mapM_toList, Sem.run_bind, Sem.run_map, q2]
    simp [hxl]
end

end Go.Proofs.YticednpolhnneaaGreat

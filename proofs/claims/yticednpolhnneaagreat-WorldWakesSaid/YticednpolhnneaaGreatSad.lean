/-
  A run reckoned ahead: rounds of a loop that leave all as it is, but for some numbers.
-/
import Derived.Test.YticednpolhnneaaGreatSac
set_option linter.unusedVariables false
set_option linter.unusedSimpArgs false
namespace Go.Proofs.YticednpolhnneaaGreat
open Go

/-! letters are put anew, one by one -/
def updPs (ρ : Nat → Int) : List Acp → List Int → (Nat → Int)
  | p :: l, v :: vs => updL (updPs ρ l vs) p.K v
  | _, _ => ρ
theorem lookN_upd {ρ : Nat → Int} : ∀ {l : List Acp} {vs : List Int} {i : Nat} {x : Int}, lookN (zipK l vs) i = some x → updPs ρ l vs i = x
  | [], _, _, _, h => by cases h
  | p :: l, [], _, _, h => by cases h
  | p :: l, v :: vs, i, x, h => by
    have h : Bool.rec (motive := fun _ => Option Int) (lookN (zipK l vs) i) (some v) (Nat.beq p.K i) = some x := h
    show updL (updPs ρ l vs) p.K v i = x
    cases hb : Nat.beq p.K i with
    | true =>
      rw [hb] at h
      rw [natBeq, decide_eq_true_eq] at hb
      cases h
      exact if_pos hb.symm
    | false =>
      rw [hb] at h
      rw [natBeq] at hb
      have hb := of_decide_eq_false hb
      rw [updL_ne (fun e => hb e.symm)]
      exact lookN_upd h
theorem evV_ok {ρ : Nat → Int} {ks : List (Nat × Int)} (hk : ∀ i x, lookN ks i = some x → ρ i = x) : ∀ {e : SI} {n : Int}, evV ks e = some n → e.ev ρ = n := by
  intro e
  induction e with
  | lit m => intro n h; cases h; rfl
  | var i => intro n h; exact hk i n h
  | bin op k a b iha ihb =>
    intro n h
    have h : opt2 (evV ks a) (evV ks b) (fun x y => forceI (binF op k x y) fun n => some n) = some n := h
    unfold opt2 at h
    cases ha : evV ks a with
    | none => rw [ha] at h; cases h
    | some x =>
      cases hb : evV ks b with
      | none => rw [ha, hb] at h; cases h
      | some y =>
        rw [ha, hb] at h
        simp only [forceI_eq, Option.some.injEq] at h
        rw [← h, binF_eq]
        show binZ op k (a.ev ρ) (b.ev ρ) = _
        rw [iha ha, ihb hb]
  | conv k a ih =>
    intro n h
    have h : opt2 (evV ks a) (evV ks a) (fun x _ => forceI (wrapF k x) fun n => some n) = some n := h
    unfold opt2 at h
    cases ha : evV ks a with
    | none => rw [ha] at h; cases h
    | some x =>
      rw [ha] at h
      simp only [forceI_eq, Option.some.injEq] at h
      rw [← h, wrapF_eq]
      show k.wrap (a.ev ρ) = _
      rw [ih ha]
  | fold a _ => intro n h; cases h
  | rs _ _ _ _ _ _ => intro n h; cases h

/-! the same memory, but for numbers -/
def EqO (Q : SI → SI → Prop) (o o' : AObj) : Prop := o = o' ∨ ∃ n c c' d d' T r, o = .cells n c d T r ∧ o' = .cells n c' d' T r ∧ ∀ i, i < n → celA c d i = celA c' d' i ∨ ∃ k e e', celA c d i = some (.int k e) ∧ celA c' d' i = some (.int k e') ∧ Q e e'
def EqH (Q : SI → SI → Prop) (h h' : Tr AObj) : Prop := ∀ id, (h.get id = none ∧ h'.get id = none) ∨ ∃ o o', h.get id = some o ∧ h'.get id = some o' ∧ EqO Q o o'
section
variable {Q : SI → SI → Prop}
theorem EqH.refl (h : Tr AObj) : EqH Q h h := fun id => by
  cases hg : h.get id with
  | none => exact .inl ⟨rfl, rfl⟩
  | some o => exact .inr ⟨o, o, rfl, rfl, .inl rfl⟩
theorem celA_set (c : Tr AV) (d : Option AV) (off : Nat) (v : AV) (i : Nat) : celA (c.set off v) d i = if i = off then some v else celA c d i := by
  unfold celA
  rw [Tr.get_set]
  by_cases h : i = off
  · rw [if_pos h, if_pos h]
  · rw [if_neg h, if_neg h]
theorem putC_some {h : Tr AObj} {id off : Nat} {v : AV} {n : Nat} {c : Tr AV} {d : Option AV} {T : TypeId} {r : Bool} (hg : h.get id = some (.cells n c d T r)) : putC h id off v = h.set id (.cells n (c.set off v) d T r) := by
  unfold putC
  rw [hg]
theorem putC_eq {h h' : Tr AObj} (H : EqH Q h h') {id off : Nat} {k : IntKind} {e e' : SI} (hq : Q e e') : EqH Q (putC h id off (.int k e)) (putC h' id off (.int k e')) := by
  rcases H id with ⟨h1, h2⟩ | ⟨o, o', h1, h2, h3⟩
  · have e1 : putC h id off (.int k e) = h := by unfold putC; rw [h1]
    have e2 : putC h' id off (.int k e') = h' := by unfold putC; rw [h2]
    rw [e1, e2]
    exact H
  · have notcells : (∀ n c d T r, o ≠ .cells n c d T r) → o = o' → EqH Q (putC h id off (.int k e)) (putC h' id off (.int k e')) := by
      intro hn ho
      have e1 : putC h id off (.int k e) = h := by
        unfold putC
        rw [h1]
        cases o <;> first | rfl | exact absurd rfl (hn _ _ _ _ _)
      have e2 : putC h' id off (.int k e') = h' := by
        unfold putC
        rw [h2, ← ho]
        cases o <;> first | rfl | exact absurd rfl (hn _ _ _ _ _)
      rw [e1, e2]
      exact H
    have key : ∀ {n c c' d d' T r}, o = .cells n c d T r → o' = .cells n c' d' T r → (∀ i, i < n → celA c d i = celA c' d' i ∨ ∃ k e e', celA c d i = some (.int k e) ∧ celA c' d' i = some (.int k e') ∧ Q e e') → EqH Q (putC h id off (.int k e)) (putC h' id off (.int k e')) := by
      intro n c c' d d' T r ho ho' hc
      subst ho; subst ho'
      rw [putC_some h1, putC_some h2]
      intro j
      rw [Tr.get_set, Tr.get_set]
      by_cases hj : j = id
      · rw [if_pos hj, if_pos hj]
        refine .inr ⟨_, _, rfl, rfl, .inr ⟨n, _, _, d, d', T, r, rfl, rfl, fun i hi => ?_⟩⟩
        rw [celA_set, celA_set]
        by_cases hio : i = off
        · rw [if_pos hio, if_pos hio]
          exact .inr ⟨k, e, e', rfl, rfl, hq⟩
        · rw [if_neg hio, if_neg hio]
          exact hc i hi
      · rw [if_neg hj, if_neg hj]
        exact H j
    rcases h3 with rfl | ⟨n, c, c', d, d', T, r, ho, ho', hc⟩
    · cases o with
      | cells n c d T r => exact key rfl rfl fun i _ => .inl rfl
      | map _ _ => exact notcells (fun _ _ _ _ _ h => by cases h) rfl
      | iter _ _ _ _ => exact notcells (fun _ _ _ _ _ h => by cases h) rfl
      | rope _ _ _ => exact notcells (fun _ _ _ _ _ h => by cases h) rfl
      | dead => exact notcells (fun _ _ _ _ _ h => by cases h) rfl
    · exact key ho ho' hc
/-- two lists of places with what is put there -/
inductive Alike (Q : SI → SI → Prop) : List (Acp × SI) → List (Acp × SI) → Prop
  | nil : Alike Q [] []
  | cons {p : Acp} {e e' : SI} {l l' : List (Acp × SI)} (h : Q e e') (t : Alike Q l l') : Alike Q ((p, e) :: l) ((p, e') :: l')
theorem putH_eq {l l' : List (Acp × SI)} (ha : Alike Q l l') : ∀ {h h' : Tr AObj}, EqH Q h h' → EqH Q (putH l h) (putH l' h') := by
  induction ha with
  | nil => intro h h' H; exact H
  | @cons p e e' l l' hq _ ih =>
    intro h h' H
    show EqH Q (putH l (Bool.rec (motive := fun _ => Tr AObj) (putC h p.id p.off (.int p.k e)) h p.tmp)) (putH l' (Bool.rec (motive := fun _ => Tr AObj) (putC h' p.id p.off (.int p.k e')) h' p.tmp))
    refine ih ?_
    cases p.tmp with
    | true => exact H
    | false => exact putC_eq H hq
theorem cellAt_put {h : Tr AObj} {id off : Nat} {v : AV} (hv : cellAt h id off = some v) (id' off' : Nat) : cellAt (putC h id off v) id' off' = cellAt h id' off' := by
  have hv0 := hv
  unfold cellAt at hv
  split at hv
  · rename_i n c d T r hg
    rw [putC_some hg]
    unfold cellAt
    rw [Tr.get_set]
    by_cases hj : id' = id
    · subst hj
      rw [if_pos rfl, hg]
      simp only
      congr 1
      by_cases ho : off' = off
      · subst ho
        cases hb : Nat.blt off' n with
        | false => rw [hb] at hv; cases hv
        | true =>
          rw [hb] at hv
          have hv : cellB c d off' = some v := hv
          rw [hv]
          unfold cellB
          rw [Tr.get_set, if_pos rfl]
      · unfold cellB
        rw [Tr.get_set, if_neg ho]
    · rw [if_neg hj]
  · cases hv
theorem cellB_eq (c : Tr AV) (d : Option AV) (i : Nat) : cellB c d i = celA c d i := by
  unfold cellB celA
  cases c.get i <;> rfl
/-- what stands there is put there -/
theorem putC_same {h : Tr AObj} {id off : Nat} {v : AV} (hv : cellAt h id off = some v) : EqH Q h (putC h id off v) := by
  have hv0 := hv
  unfold cellAt at hv
  split at hv
  · rename_i n c d T r hg
    rw [putC_some hg]
    intro j
    rw [Tr.get_set]
    by_cases hj : j = id
    · subst hj
      rw [if_pos rfl, hg]
      refine .inr ⟨_, _, rfl, rfl, .inr ⟨n, _, _, d, d, T, r, rfl, rfl, fun i hi => .inl ?_⟩⟩
      rw [celA_set]
      by_cases ho : i = off
      · rw [if_pos ho, ho]
        cases hb : Nat.blt off n with
        | false => rw [hb] at hv; cases hv
        | true =>
          rw [hb] at hv
          rw [← cellB_eq]
          exact hv
      · rw [if_neg ho]
    · rw [if_neg hj]
      exact EqH.refl h j
  · cases hv
theorem EqH.trans' {h h' h'' : Tr AObj} (hQ : ∀ a b c, Q a b → Q b c → Q a c) (H : EqH Q h h') (H' : EqH Q h' h'') : EqH Q h h'' := by
  intro id
  rcases H id with ⟨h1, h2⟩ | ⟨o, o', h1, h2, h3⟩
  · rcases H' id with ⟨h4, h5⟩ | ⟨p, p', h4, h5, h6⟩
    · exact .inl ⟨h1, h5⟩
    · rw [h2] at h4; cases h4
  · rcases H' id with ⟨h4, h5⟩ | ⟨p, p', h4, h5, h6⟩
    · rw [h2] at h4; cases h4
    · rw [h2] at h4; cases h4
      refine .inr ⟨o, p', h1, h5, ?_⟩
      rcases h3 with rfl | ⟨n, c, c', d, d', T, r, e1, e2, e3⟩
      · exact h6
      · rcases h6 with rfl | ⟨m, b, b', f, f', U, q, f1, f2, f3⟩
        · exact .inr ⟨n, c, c', d, d', T, r, e1, e2, e3⟩
        · rw [e2] at f1
          cases f1
          refine .inr ⟨n, c, b', d, f', T, r, e1, f2, fun i hi => ?_⟩
          rcases e3 i hi with g1 | ⟨k, e, e', g1, g2, g3⟩
          · rcases f3 i hi with g4 | ⟨k2, e2', e3', g4, g5, g6⟩
            · exact .inl (g1.trans g4)
            · exact .inr ⟨k2, e2', e3', g1.trans g4, g5, g6⟩
          · rcases f3 i hi with g4 | ⟨k2, e2', e3', g4, g5, g6⟩
            · exact .inr ⟨k, e, e', g1, g4.symm.trans g2, g3⟩
            · rw [g2] at g4
              cases g4
              exact .inr ⟨k, e, e3', g1, g5, hQ _ _ _ g3 g6⟩
theorem isLitAt_of {o : Option AV} {k : IntKind} {v : Int} (h : isLitAt o k v = true) : o = some (.int k (.lit v)) := by
  unfold isLitAt at h
  split at h
  · simp only [Bool.and_eq_true, beqF_eq, decide_eq_true_eq] at h
    rw [kindEq_of h.1, h.2]
  · cases h
/-- the beginning -/
theorem acdAt_eq (hQ : ∀ a b c, Q a b → Q b c → Q a c) {t : Ts} : ∀ {l : List Acp} {h : Tr AObj}, acdAt l h t = true → EqH Q h (putH (litE l (v0s l)) h)
  | [], h, _ => EqH.refl h
  | p :: l, h, ha => by
    have ha : (isLitAt (acpAt h t p) p.k p.v0 && acdAt l h t) = true := ha
    rw [Bool.and_eq_true] at ha
    obtain ⟨h1, h2⟩ := ha
    show EqH Q h (putH (litE l (v0s l)) (Bool.rec (motive := fun _ => Tr AObj) (putC h p.id p.off (.int p.k (.lit p.v0))) h p.tmp))
    have h3 := isLitAt_of h1
    unfold acpAt at h3
    cases hp : p.tmp with
    | true => exact acdAt_eq hQ h2
    | false =>
      rw [hp] at h3
      have h3 : cellAt h p.id p.off = some (.int p.k (.lit p.v0)) := h3
      refine EqH.trans' hQ (putC_same h3) (acdAt_eq (t := t) hQ ?_)
      -- the others stand as they stood
      clear h1
      revert h2
      generalize l = l'
      intro h2
      induction l' with
      | nil => rfl
      | cons q l' ih =>
        have h2 : (isLitAt (acpAt h t q) q.k q.v0 && acdAt l' h t) = true := h2
        show (isLitAt (acpAt (putC h p.id p.off (.int p.k (.lit p.v0))) t q) q.k q.v0 && acdAt l' (putC h p.id p.off (.int p.k (.lit p.v0))) t) = true
        rw [Bool.and_eq_true] at h2 ⊢
        refine ⟨?_, ih h2.2⟩
        have : acpAt (putC h p.id p.off (.int p.k (.lit p.v0))) t q = acpAt h t q := by
          unfold acpAt
          cases q.tmp with
          | true => rfl
          | false => exact cellAt_put h3 _ _
        rw [this]
        exact h2.1
end
section
variable {P : Program} {ρ : Nat → Int} {φ φ' : List Pl} {w w' : World}
theorem EqO.live {Q : SI → SI → Prop} {o o' : AObj} (h : EqO Q o o') : live o = live o' := by
  rcases h with rfl | ⟨n, c, c', d, d', T, r, rfl, rfl, _⟩
  · rfl
  · rfl
theorem ObjOk.alike {id : Nat} {o o' : AObj} (he : EqO (fun a b => a.ev ρ = b.ev ρ) o o') (h : ObjOk P φ ρ w id o) : ObjOk P φ ρ w id o' := by
  rcases he with rfl | ⟨n, c, c', d, d', T, r, rfl, rfl, hc⟩
  · exact h
  · obtain ⟨p, arr, fz, h1, h2⟩ := h
    refine ⟨p, arr, fz, h1, h2.blk, h2.size, h2.le, h2.fix, h2.es, h2.fr, fun i hi => ?_⟩
    obtain ⟨v, x, a1, a2, a3, a4⟩ := h2.cell i hi
    rcases hc i hi with g | ⟨k, e, e', g1, g2, g3⟩
    · exact ⟨v, x, by rw [← g]; exact a1, a2, a3, a4⟩
    · rw [g1] at a1
      cases a1
      simp only [conc, Option.some.injEq] at a2
      subst a2
      have g3 : e.ev ρ = e'.ev ρ := g3
      exact ⟨_, _, g2, by simp only [conc, g3], a3, rfl⟩
theorem Gm.alike {w0 : Base} {s : St} {h' : Tr AObj} (hg : Gm P ρ w0 φ s w) (he : EqH (fun a b => a.ev ρ = b.ev ρ) s.hp h') (pc : PC) : Gm P ρ w0 φ ⟨h', s.nx, pc⟩ w := by
  have back : ∀ {id o'}, h'.get id = some o' → ∃ o, s.hp.get id = some o ∧ EqO (fun a b => a.ev ρ = b.ev ρ) o o' := by
    intro id o' ho
    rcases he id with ⟨h1, h2⟩ | ⟨o, o2, h1, h2, h3⟩
    · rw [h2] at ho; cases ho
    · rw [h2] at ho; cases ho
      exact ⟨o, h1, h3⟩
  refine ⟨⟨fun id o' ho => ?_, fun i j o o' p q hi hj l l' hp hq he => ?_⟩, hg.len, fun id o' ho => ?_, hg.lo, hg.kp, hg.fr, hg.fo⟩
  · obtain ⟨o, h1, h2⟩ := back ho
    exact (hg.hp.obj id o h1).alike h2
  · obtain ⟨o1, h1, h2⟩ := back hi
    obtain ⟨o2, h3, h4⟩ := back hj
    exact hg.hp.sep i j o1 o2 p q h1 h3 (by rw [h2.live]; exact l) (by rw [h4.live]; exact l') hp hq he
  · obtain ⟨o, h1, _⟩ := back ho
    exact hg.ids id o h1
theorem EntOk.backN (hp : φ <+: φ') : ∀ {es : List (AV × AV × Nat)} {ms ms' : List MapEntry}, EntOk φ ρ es ms → EntOk φ' ρ es ms' → EntOk φ ρ es ms'
  | [], _, _, h, h' => by cases h'; exact .nil
  | (a, b, n) :: es, _, _, h, h' => by
    cases h with
    | cons hk hv hr =>
      cases h' with
      | cons hk' hv' hr' =>
        rw [conc_mono hp a _ hk] at hk'
        rw [conc_mono hp b _ hv] at hv'
        cases hk'; cases hv'
        exact .cons hk hv (hr.backN hp hr')
/-- back to what was there, with other numbers -/
theorem Gm.backN {w0 : Base} {s s' : St} {hB : Tr AObj} (hp : φ <+: φ') (hA : Gm P ρ w0 φ s w) (hE : EqH (fun _ _ => True) s.hp hB) (hle : Tr.leB AObj.beq hB s'.hp = true) (h' : Gm P ρ w0 φ' s' w') (pc : PC) : Gm P ρ w0 φ ⟨hB, s.nx, pc⟩ w' := by
  have hg : ∀ {id o}, hB.get id = some o → s'.hp.get id = some o := fun {id o} ho => Tr.leB_get (fun _ _ => AObj.beq_eq) hle ho
  have back : ∀ {id o'}, hB.get id = some o' → ∃ o, s.hp.get id = some o ∧ EqO (fun _ _ => True) o o' := by
    intro id o' ho
    rcases hE id with ⟨h1, h2⟩ | ⟨o, o2, h1, h2, h3⟩
    · rw [h2] at ho; cases ho
    · rw [h2] at ho; cases ho
      exact ⟨o, h1, h3⟩
  have same : ∀ {x : AV} {y z : Value}, conc φ ρ x = some y → conc φ' ρ x = some z → y = z := fun {x y z} h1 h2 => by
    rw [conc_mono hp x _ h1] at h2
    exact Option.some.inj h2
  refine ⟨⟨fun id o' ho => ?_, fun i j o o' p q hi hj l l' hpi hqj he => h'.hp.sep i j o o' p q (hg hi) (hg hj) l l' (pl_mono hp hpi) (pl_mono hp hqj) he⟩, hA.len, fun id o' ho => ?_, fun id p hpi => h'.lo id p (pl_mono hp hpi), h'.kp, fun x hx => ?_, hA.fo⟩
  · obtain ⟨o, h1, h2⟩ := back ho
    have hold := hA.hp.obj id o h1
    have hnew := h'.hp.obj id o' (hg ho)
    rcases h2 with rfl | ⟨n, c, c', d, d', T, r, rfl, rfl, hc⟩
    · cases o with
      | cells n c d T row =>
        obtain ⟨p, arr, fz, h1, h2⟩ := hold
        obtain ⟨p', arr', fz', h1', h2'⟩ := hnew
        have := pl_mono hp h1
        rw [this] at h1'; cases h1'
        refine ⟨p, arr', fz', h1, h2'.blk, h2'.size, h2'.le, h2'.fix, h2'.es, h2'.fr, fun i hi => ?_⟩
        obtain ⟨x, y, a1, a2, a3, a4⟩ := h2.cell i hi
        obtain ⟨x', y', b1, b2, b3, b4⟩ := h2'.cell i hi
        rw [a1] at b1; cases b1
        have e := same a2 b2
        subst e
        exact ⟨x, y, a1, a2, b3, b4⟩
      | map es clk =>
        obtain ⟨p, xs, h1, h2, h3⟩ := hold
        obtain ⟨p', xs', h1', h2', h3'⟩ := hnew
        have := pl_mono hp h1
        rw [this] at h1'; cases h1'
        exact ⟨p, xs', h1, h2', h3.backN hp h3'⟩
      | iter m since seen last =>
        obtain ⟨p, m0, h1, h2, h3, h4⟩ := hold
        obtain ⟨p', m1, h1', h2', h3', h4'⟩ := hnew
        have := pl_mono hp h1
        rw [this] at h1'; cases h1'
        refine ⟨p, m1, h1, h2, ?_, h4'⟩
        cases m <;> cases m0 <;> cases m1 <;> simp only [MapAt] at h3 h3' ⊢
        obtain ⟨q, q1, q2⟩ := h3
        obtain ⟨q', q1', q2'⟩ := h3'
        have := pl_mono hp q1
        rw [this] at q1'; cases q1'
        exact ⟨q, q1, q2'⟩
      | rope cs T row =>
        obtain ⟨p, arr, fz, h1, h2⟩ := hold
        obtain ⟨p', arr', fz', h1', h2'⟩ := hnew
        have := pl_mono hp h1
        rw [this] at h1'; cases h1'
        exact ⟨p, arr', fz', h1, h2'⟩
      | dead => exact hold
    · obtain ⟨p, arr, fz, h1, h2⟩ := hold
      obtain ⟨p', arr', fz', h1', h2'⟩ := hnew
      have := pl_mono hp h1
      rw [this] at h1'; cases h1'
      refine ⟨p, arr', fz', h1, h2'.blk, h2'.size, h2'.le, h2'.fix, h2'.es, h2'.fr, fun i hi => ?_⟩
      obtain ⟨x, y, a1, a2, a3, a4⟩ := h2.cell i hi
      obtain ⟨x', y', b1, b2, b3, b4⟩ := h2'.cell i hi
      rcases hc i hi with g | ⟨k, e, e', g1, g2, _⟩
      · rw [← g, a1] at b1; cases b1
        have e := same a2 b2
        subst e
        exact ⟨x, y, by rw [← g]; exact a1, a2, b3, b4⟩
      · rw [g2] at b1
        cases b1
        simp only [conc, Option.some.injEq] at b2
        subst b2
        exact ⟨_, _, g2, by simp only [conc], b3, rfl⟩
  · obtain ⟨o, h1, _⟩ := back ho
    exact hA.ids id o h1
  · obtain ⟨a1, a2, a3⟩ := h'.fr x hx
    exact ⟨a1, a2, fun id p hpi => a3 id p (pl_mono hp hpi)⟩
end
theorem Tr.all_setP {α : Type} {p : α → Bool} {x : α} (hx : p x = true) : ∀ (q : Pos) (t : Tr α), Tr.all p t = true → Tr.all p (Tr.setP x q t) = true := by
  intro q
  induction q with
  | here =>
    intro t h
    cases t with
    | nil =>
      show (optB p (some x) && (true && true)) = true
      simp [optB, hx]
    | node v l r =>
      have h : (optB p v && (Tr.all p l && Tr.all p r)) = true := h
      show (optB p (some x) && (Tr.all p l && Tr.all p r)) = true
      simp only [Bool.and_eq_true] at h ⊢
      exact ⟨hx, h.2⟩
  | left q ih =>
    intro t h
    cases t with
    | nil =>
      show (optB p none && (Tr.all p (Tr.setP x q .nil) && true)) = true
      rw [ih .nil rfl]; rfl
    | node v l r =>
      have h : (optB p v && (Tr.all p l && Tr.all p r)) = true := h
      show (optB p v && (Tr.all p (Tr.setP x q l) && Tr.all p r)) = true
      simp only [Bool.and_eq_true] at h ⊢
      exact ⟨h.1, ih l h.2.1, h.2.2⟩
  | right q ih =>
    intro t h
    cases t with
    | nil =>
      show (optB p none && (true && Tr.all p (Tr.setP x q .nil))) = true
      rw [ih .nil rfl]; rfl
    | node v l r =>
      have h : (optB p v && (Tr.all p l && Tr.all p r)) = true := h
      show (optB p v && (Tr.all p l && Tr.all p (Tr.setP x q r))) = true
      simp only [Bool.and_eq_true] at h ⊢
      exact ⟨h.1, h.2.1, ih r h.2.2⟩
theorem Tr.all_set {α : Type} {p : α → Bool} {x : α} {t : Tr α} (hx : p x = true) (ht : Tr.all p t = true) (k : Nat) : Tr.all p (t.set k x) = true := Tr.all_setP hx _ _ ht
theorem putC_fr {K : Nat} {h : Tr AObj} {id off : Nat} {k : IntKind} {v : Int} (hf : Tr.all (AObj.fr K) h = true) : Tr.all (AObj.fr K) (putC h id off (.int k (.lit v))) = true := by
  unfold putC
  split
  · rename_i n c d T r hg
    refine Tr.all_set ?_ hf _
    have h1 := Tr.all_get hf hg
    have h1 : (Tr.all (AV.fr K) c && optB (AV.fr K) d) = true := h1
    show (Tr.all (AV.fr K) (c.set off (.int k (.lit v))) && optB (AV.fr K) d) = true
    simp only [Bool.and_eq_true] at h1 ⊢
    exact ⟨Tr.all_set (by simp only [AV.fr]; rfl) h1.1 _, h1.2⟩
  · exact hf
theorem litE_fr {K : Nat} : ∀ {l : List Acp} {vs : List Int} {h : Tr AObj}, Tr.all (AObj.fr K) h = true → Tr.all (AObj.fr K) (putH (litE l vs) h) = true
  | [], _, h, hf => hf
  | p :: l, [], h, hf => hf
  | p :: l, v :: vs, h, hf => by
    show Tr.all (AObj.fr K) (putH (litE l vs) (Bool.rec (motive := fun _ => Tr AObj) (putC h p.id p.off (.int p.k (.lit v))) h p.tmp)) = true
    refine litE_fr ?_
    cases p.tmp with
    | true => exact hf
    | false => exact putC_fr hf
theorem nthR_set {x : Int × Int} : ∀ {rg : List (Int × Int)} {K i : Nat} {y : Int × Int}, nthR (setRg x rg K) i = some y → (i = K ∧ y = x) ∨ nthR rg i = some y
  | [], K, i, y, h => .inr h
  | z :: l, 0, 0, y, h => by cases h; exact .inl ⟨rfl, rfl⟩
  | z :: l, 0, i + 1, y, h => .inr h
  | z :: l, K + 1, 0, y, h => .inr h
  | z :: l, K + 1, i + 1, y, h => by
    rcases nthR_set (show nthR (setRg x l K) i = some y from h) with ⟨rfl, h1⟩ | h1
    · exact .inl ⟨rfl, h1⟩
    · exact .inr h1
theorem rgOk_set {ρ : Nat → Int} {rg : List (Int × Int)} (h : RgOk ρ rg) {K : Nat} {v lo hi : Int} (h1 : lo ≤ v) (h2 : v ≤ hi) : RgOk (updL ρ K v) (setRg (lo, hi) rg K) := by
  intro i l u e
  rcases nthR_set e with ⟨rfl, h3⟩ | h3
  · cases h3
    rw [show updL ρ i v i = v from if_pos rfl]
    exact ⟨h1, h2⟩
  · by_cases hi' : i = K
    · subst hi'
      -- it was put anew
      rw [show updL ρ i v i = v from if_pos rfl]
      have : nthR (setRg (lo, hi) rg i) i = some (lo, hi) := by
        clear e
        clear h
        induction rg generalizing i with
        | nil => cases h3
        | cons z rg ih =>
          cases i with
          | zero => rfl
          | succ i => exact ih i h3
      rw [this] at e
      cases e
      exact ⟨h1, h2⟩
    · rw [updL_ne hi']
      exact h i l u h3
theorem inV_cons {ks : List (Nat × Int)} {p : Acp} {l : List Acp} {vs : List Int} (h : inV ks (p :: l) vs = true) : ∃ v vs', vs = v :: vs' ∧ p.lo ≤ v ∧ v ≤ p.hi ∧ lookN ks p.K = some v ∧ inV ks l vs' = true := by
  cases vs with
  | nil => cases h
  | cons v vs' =>
    have h : (leF p.lo v && (leF v p.hi && (eqU (lookN ks p.K) (some v) && inV ks l vs'))) = true := h
    simp only [Bool.and_eq_true, leF_eq, decide_eq_true_eq] at h
    refine ⟨v, vs', rfl, h.1, h.2.1, ?_, h.2.2.2⟩
    have h3 := h.2.2.1
    unfold eqU at h3
    cases hk : lookN ks p.K with
    | none => rw [hk] at h3; cases h3
    | some x =>
      rw [hk] at h3
      have h3 : beqF x v = true := h3
      rw [beqF_eq, decide_eq_true_eq] at h3
      rw [h3]
theorem rgOk_upd {ρ : Nat → Int} {rg : List (Int × Int)} (h : RgOk ρ rg) {ks : List (Nat × Int)} : ∀ {l : List Acp} {vs : List Int}, inV ks l vs = true → RgOk (updPs ρ l vs) (setRgs rg l)
  | [], vs, hi => by cases vs <;> exact h
  | p :: l, vs, hi => by
    obtain ⟨v, vs', rfl, h1, h2, _, h4⟩ := inV_cons hi
    exact rgOk_set (rgOk_upd h h4) h1 h2
theorem stepV_cons {ks : List (Nat × Int)} {p : Acp} {l : List Acp} {us : List Int} (h : stepV ks (p :: l) = some us) : ∃ u us', us = u :: us' ∧ evV ks p.step = some u ∧ stepV ks l = some us' := by
  have h : Option.rec (motive := fun _ => Option (List Int)) none (fun v => Option.rec (motive := fun _ => Option (List Int)) none (fun vs => some (v :: vs)) (stepV ks l)) (evV ks p.step) = some us := h
  cases h1 : evV ks p.step with
  | none => rw [h1] at h; cases h
  | some u =>
    rw [h1] at h
    cases h2 : stepV ks l with
    | none => rw [h2] at h; cases h
    | some us' => rw [h2] at h; cases h; exact ⟨u, us', rfl, rfl, rfl⟩
section
variable {ρ : Nat → Int} {ks : List (Nat × Int)}
theorem alike_var (hk : ∀ i x, lookN ks i = some x → ρ i = x) : ∀ {l : List Acp} {vs : List Int}, inV ks l vs = true → Alike (fun a b => a.ev ρ = b.ev ρ) (litE l vs) (varE l)
  | [], vs, h => by cases vs <;> exact .nil
  | p :: l, vs, h => by
    obtain ⟨v, vs', rfl, _, _, h3, h4⟩ := inV_cons h
    exact .cons (hk _ _ h3).symm (alike_var hk h4)
theorem alike_step (hk : ∀ i x, lookN ks i = some x → ρ i = x) : ∀ {l : List Acp} {us : List Int}, stepV ks l = some us → Alike (fun a b => a.ev ρ = b.ev ρ) (stepE l) (litE l us)
  | [], us, h => .nil
  | p :: l, us, h => by
    obtain ⟨u, us', rfl, h1, h2⟩ := stepV_cons h
    exact .cons (evV_ok hk h1) (alike_step hk h2)
theorem alike_any : ∀ {l : List Acp}, Alike (fun _ _ => True) (varE l) (stepE l)
  | [] => .nil
  | _ :: l => .cons trivial alike_any
end
/-! the temporaries -/
theorem putT_get : ∀ {l : List (Acp × SI)} {t : Ts} {d : Nat} {y : AV}, (putT l t).get d = some y → (t.get d = some y) ∨ ∃ x ∈ l, x.1.tmp = true ∧ x.1.id = d ∧ y = .int x.1.k x.2
  | [], t, d, y, h => .inl h
  | x :: l, t, d, y, h => by
    have h : (putT l (Bool.rec (motive := fun _ => Ts) t (Ts.put x.1.id (.int x.1.k x.2) t) x.1.tmp)).get d = some y := h
    rcases putT_get h with h1 | ⟨z, hz, h2⟩
    · cases hx : x.1.tmp with
      | false => rw [hx] at h1; exact .inl h1
      | true =>
        rw [hx] at h1
        have h1 : (Tr.set t x.1.id (.int x.1.k x.2)).get d = some y := h1
        rw [Tr.get_set] at h1
        split at h1
        · rename_i he
          cases h1
          exact .inr ⟨x, by simp, hx, he.symm, rfl⟩
        · exact .inl h1
    · exact .inr ⟨z, by simp [hz], h2⟩
theorem putT_alike {ρ : Nat → Int} {φ : List Pl} {l l' : List (Acp × SI)} (ha : Alike (fun a b => a.ev ρ = b.ev ρ) l l') : ∀ {t t' : Ts}, (∀ d, (t'.get d).isNone = (t.get d).isNone) → (∀ d y y', t.get d = some y → t'.get d = some y' → conc φ ρ y = conc φ ρ y') → (∀ d, ((putT l' t').get d).isNone = ((putT l t).get d).isNone) ∧ ∀ d y y', (putT l t).get d = some y → (putT l' t').get d = some y' → conc φ ρ y = conc φ ρ y' := by
  induction ha with
  | nil => intro t t' h1 h2; exact ⟨h1, h2⟩
  | @cons p e e' l l' hq _ ih =>
    intro t t' h1 h2
    show (∀ d, ((putT l' (Bool.rec (motive := fun _ => Ts) t' (Ts.put p.id (.int p.k e') t') p.tmp)).get d).isNone = ((putT l (Bool.rec (motive := fun _ => Ts) t (Ts.put p.id (.int p.k e) t) p.tmp)).get d).isNone) ∧ ∀ d y y', (putT l (Bool.rec (motive := fun _ => Ts) t (Ts.put p.id (.int p.k e) t) p.tmp)).get d = some y → (putT l' (Bool.rec (motive := fun _ => Ts) t' (Ts.put p.id (.int p.k e') t') p.tmp)).get d = some y' → conc φ ρ y = conc φ ρ y'
    cases p.tmp with
    | false => exact ih h1 h2
    | true =>
      refine ih (fun d => ?_) (fun d y y' hy hy' => ?_)
      · show ((Tr.set t' p.id _).get d).isNone = ((Tr.set t p.id _).get d).isNone
        rw [Tr.get_set, Tr.get_set]
        by_cases hd : d = p.id
        · rw [if_pos hd, if_pos hd]; rfl
        · rw [if_neg hd, if_neg hd]; exact h1 d
      · have hy : (Tr.set t p.id (.int p.k e)).get d = some y := hy
        have hy' : (Tr.set t' p.id (.int p.k e')).get d = some y' := hy'
        rw [Tr.get_set] at hy hy'
        by_cases hd : d = p.id
        · rw [if_pos hd] at hy hy'
          cases hy; cases hy'
          have hq : e.ev ρ = e'.ev ρ := hq
          simp only [conc, hq]
        · rw [if_neg hd] at hy hy'
          exact h2 d y y' hy hy'
theorem GA.alike {ρ : Nat → Int} {φ : List Pl} {l l' : List (Acp × SI)} {t : Ts} {sz : Nat} {a : Act} (ha : Alike (fun a b => a.ev ρ = b.ev ρ) l l') (hz : ∀ x ∈ l', x.1.tmp = true → x.1.id < sz) (hz0 : ∀ x ∈ l, x.1.tmp = true → x.1.id < sz) (h : GA φ ρ (putT l t) sz a) : GA φ ρ (putT l' t) sz a := by
  obtain ⟨h1, h2⟩ := putT_alike (φ := φ) ha (t := t) (t' := t) (fun _ => rfl) (fun d y y' e e' => by rw [e] at e'; cases e'; rfl)
  refine ⟨h.size, fun d y' hy' => ?_, ?_⟩
  · cases hy : (putT l t).get d with
    | none =>
      have := h1 d
      rw [hy, hy'] at this
      cases this
    | some y => rw [← h2 d y y' hy hy']; exact h.tm d y hy
  · have e : ∀ {m : List (Acp × SI)}, (∀ x ∈ m, x.1.tmp = true → x.1.id < sz) → ∀ {u : Ts}, (putT m u).get sz = u.get sz := by
      intro m
      induction m with
      | nil => intro _ u; rfl
      | cons x m ih =>
        intro hm u
        show (putT m (Bool.rec (motive := fun _ => Ts) u (Ts.put x.1.id (.int x.1.k x.2) u) x.1.tmp)).get sz = u.get sz
        rw [ih (fun y hy => hm y (by simp [hy]))]
        cases hx : x.1.tmp with
        | false => rfl
        | true =>
          show (Tr.set u x.1.id _).get sz = u.get sz
          rw [Tr.get_set, if_neg (by have := hm x (by simp) hx; omega)]
          rfl
    rw [e hz]
    have := h.df
    rw [e hz0] at this
    exact this
theorem updPs_back {ρ : Nat → Int} : ∀ {l : List Acp} {vs : List Int}, ∃ us : List Int, us.length = l.length ∧ updPs (updPs ρ l vs) l us = ρ := by
  intro l vs
  refine ⟨l.map fun p => ρ p.K, by simp, ?_⟩
  have key : ∀ (m : List Acp) (σ : Nat → Int) (i : Nat), updPs σ m (m.map fun p => ρ p.K) i = if (∃ p ∈ m, p.K = i) then ρ i else σ i := by
    intro m
    induction m with
    | nil => intro σ i; rw [if_neg (by rintro ⟨p, hp, _⟩; cases hp)]; rfl
    | cons p m ih =>
      intro σ i
      show updL (updPs σ m (m.map fun p => ρ p.K)) p.K (ρ p.K) i = _
      by_cases h : i = p.K
      · subst h
        rw [show updL _ p.K (ρ p.K) p.K = ρ p.K from if_pos rfl, if_pos ⟨p, by simp, rfl⟩]
      · rw [updL_ne h, ih]
        by_cases h2 : ∃ q ∈ m, q.K = i
        · obtain ⟨q, hq, hqi⟩ := h2
          rw [if_pos ⟨q, hq, hqi⟩, if_pos ⟨q, by simp [hq], hqi⟩]
        · rw [if_neg h2, if_neg]
          rintro ⟨q, hq, hqi⟩
          rcases List.mem_cons.1 hq with rfl | hq
          · exact h hqi.symm
          · exact h2 ⟨q, hq, hqi⟩
  have off : ∀ (m : List Acp) (us : List Int) (i : Nat), (¬ ∃ p ∈ m, p.K = i) → updPs ρ m us i = ρ i := by
    intro m
    induction m with
    | nil => intro us i _; rfl
    | cons p m ih =>
      intro us i hn
      cases us with
      | nil => rfl
      | cons u us =>
        show updL (updPs ρ m us) p.K u i = ρ i
        rw [updL_ne (fun h => hn ⟨p, by simp, h.symm⟩)]
        exact ih us i fun ⟨q, hq, hqi⟩ => hn ⟨q, by simp [hq], hqi⟩
  funext i
  rw [key]
  by_cases h : ∃ p ∈ l, p.K = i
  · rw [if_pos h]
  · rw [if_neg h]
    exact off l vs i h
/-- things that do not speak of those letters -/
structure FreeP (l : List Acp) (h : Tr AObj) (t : Ts) (pcl : List (SB × Bool)) : Prop where
  k : ∀ p ∈ l, p.K < 32
  h : ∀ p ∈ l, Tr.all (AObj.fr p.K) h = true
  t : ∀ p ∈ l, Tr.all (AV.fr p.K) t = true
  p : ∀ p ∈ l, pcl.all (fun x => SB.fr p.K x.1) = true
section
variable {P : Program} {φ : List Pl} {w : World}
theorem Gm.freshP {w0 : Base} : ∀ {l : List Acp} {us : List Int} {ρ : Nat → Int} {s : St}, (∀ p ∈ l, p.K < 32) → (∀ p ∈ l, Tr.all (AObj.fr p.K) s.hp = true) → Gm P ρ w0 φ s w → Gm P (updPs ρ l us) w0 φ s w
  | [], us, ρ, s, _, _, hg => by cases us <;> exact hg
  | p :: l, [], ρ, s, _, _, hg => hg
  | p :: l, u :: us, ρ, s, hk, hf, hg => (Gm.freshP (fun q hq => hk q (by simp [hq])) (fun q hq => hf q (by simp [hq])) hg).fresh (hk p (by simp)) (hf p (by simp)) rfl rfl
theorem conc_freshP {x : AV} : ∀ {l : List Acp} {us : List Int} {ρ : Nat → Int}, (∀ p ∈ l, AV.fr p.K x = true) → conc φ (updPs ρ l us) x = conc φ ρ x
  | [], us, ρ, _ => by cases us <;> rfl
  | p :: l, [], ρ, _ => rfl
  | p :: l, u :: us, ρ, h => by
    show conc φ (updL (updPs ρ l us) p.K u) x = _
    rw [AV.fr_conc x (h p (by simp))]
    exact conc_freshP fun q hq => h q (by simp [hq])
theorem SB.freshP {c : SB} : ∀ {l : List Acp} {us : List Int} {ρ : Nat → Int}, (∀ p ∈ l, SB.fr p.K c = true) → c.ev (updPs ρ l us) = c.ev ρ
  | [], us, ρ, _ => by cases us <;> rfl
  | p :: l, [], ρ, _ => rfl
  | p :: l, u :: us, ρ, h => by
    show c.ev (updL (updPs ρ l us) p.K u) = _
    rw [SB.fr_ev (h p (by simp))]
    exact SB.freshP fun q hq => h q (by simp [hq])
end
theorem litT_fr {K : Nat} : ∀ {l : List Acp} {vs : List Int} {t : Ts}, Tr.all (AV.fr K) t = true → Tr.all (AV.fr K) (putT (litE l vs) t) = true
  | [], _, t, hf => hf
  | p :: l, [], t, hf => hf
  | p :: l, v :: vs, t, hf => by
    show Tr.all (AV.fr K) (putT (litE l vs) (Bool.rec (motive := fun _ => Ts) t (Ts.put p.id (.int p.k (.lit v)) t) p.tmp)) = true
    refine litT_fr ?_
    cases p.tmp with
    | false => exact hf
    | true => exact Tr.all_set (by simp only [AV.fr]; rfl) hf _
theorem litE_mem : ∀ {l : List Acp} {vs : List Int} {x : Acp × SI}, x ∈ litE l vs → x.1 ∈ l
  | [], _, x, h => by cases h
  | p :: l, [], x, h => by cases h
  | p :: l, v :: vs, x, h => by
    rcases List.mem_cons.1 (show x ∈ (p, SI.lit v) :: litE l vs from h) with rfl | h
    · simp
    · exact List.mem_cons_of_mem _ (litE_mem h)
theorem varE_mem : ∀ {l : List Acp} {x : Acp × SI}, x ∈ varE l → x.1 ∈ l
  | [], x, h => by cases h
  | p :: l, x, h => by
    rcases List.mem_cons.1 (show x ∈ (p, SI.var p.K) :: varE l from h) with rfl | h
    · simp
    · exact List.mem_cons_of_mem _ (varE_mem h)
theorem stepE_mem : ∀ {l : List Acp} {x : Acp × SI}, x ∈ stepE l → x.1 ∈ l
  | [], x, h => by cases h
  | p :: l, x, h => by
    rcases List.mem_cons.1 (show x ∈ (p, p.step) :: stepE l from h) with rfl | h
    · simp
    · exact List.mem_cons_of_mem _ (stepE_mem h)
theorem acdB_inv {l : List Acp} {sz : Nat} {s : St} {t0 : Ts} (h : acdB l sz s t0 = true) : t0.get sz = none ∧ FreeP l s.hp t0 s.pc.l ∧ ∀ p ∈ l, p.tmp = true → p.id < sz := by
  unfold acdB at h
  rw [Bool.and_eq_true, Option.isNone_iff_eq_none] at h
  obtain ⟨h0, h⟩ := h
  have key : ∀ m : List Acp, List.rec (motive := fun _ => Bool) true (fun p _ r => (Nat.blt p.K (nat_lit 32) && ((Bool.rec (motive := fun _ => Bool) true (Nat.blt p.id sz) p.tmp) && (Tr.all (AObj.fr p.K) s.hp && (Tr.all (AV.fr p.K) t0 && s.pc.l.all (fun x => SB.fr p.K x.1))))) && r) m = true → FreeP m s.hp t0 s.pc.l ∧ ∀ p ∈ m, p.tmp = true → p.id < sz := by
    intro m
    induction m with
    | nil => intro _; exact ⟨⟨fun p hp => (by cases hp), fun p hp => (by cases hp), fun p hp => (by cases hp), fun p hp => (by cases hp)⟩, fun p hp => (by cases hp)⟩
    | cons p m ih =>
      intro hm
      have hm : ((Nat.blt p.K (nat_lit 32) && ((Bool.rec (motive := fun _ => Bool) true (Nat.blt p.id sz) p.tmp) && (Tr.all (AObj.fr p.K) s.hp && (Tr.all (AV.fr p.K) t0 && s.pc.l.all (fun x => SB.fr p.K x.1))))) && List.rec (motive := fun _ => Bool) true (fun p _ r => (Nat.blt p.K (nat_lit 32) && ((Bool.rec (motive := fun _ => Bool) true (Nat.blt p.id sz) p.tmp) && (Tr.all (AObj.fr p.K) s.hp && (Tr.all (AV.fr p.K) t0 && s.pc.l.all (fun x => SB.fr p.K x.1))))) && r) m) = true := hm
      rw [Bool.and_eq_true] at hm
      obtain ⟨⟨f1, f2, f3, f4⟩, f5⟩ := ih hm.2
      have h1 := hm.1
      simp only [Bool.and_eq_true, natBlt, decide_eq_true_eq] at h1
      obtain ⟨a1, a2, a3, a4, a5⟩ := h1
      refine ⟨⟨fun q hq => ?_, fun q hq => ?_, fun q hq => ?_, fun q hq => ?_⟩, fun q hq hqt => ?_⟩
      · rcases List.mem_cons.1 hq with rfl | hq
        · exact a1
        · exact f1 q hq
      · rcases List.mem_cons.1 hq with rfl | hq
        · exact a3
        · exact f2 q hq
      · rcases List.mem_cons.1 hq with rfl | hq
        · exact a4
        · exact f3 q hq
      · rcases List.mem_cons.1 hq with rfl | hq
        · exact a5
        · exact f4 q hq
      · rcases List.mem_cons.1 hq with rfl | hq
        · rw [hqt] at a2
          have a2 : decide (q.id < sz) = true := a2
          exact of_decide_eq_true a2
        · exact f5 q hq hqt
  exact ⟨h0, key l h⟩
section
variable {P : Program} {ρ : Nat → Int} {pl : Plans}
theorem acdG_sound {ih : EvT} (hih : ∀ ρ, CodeSound P ρ pl ih) {f sz : Nat} {c : Code} (hok : codeOk pl f c = true) {a : Acd} {s : St} {t : Ts} {r : St → Ts → R} {D : Dn} (ht : (acdAt a.ps s.hp t && Option.isNone (t.get sz)) = true) (hD : acdG ih f sz c a s (keepTs t a.keep) r ∈ D) :
    ∃ s1 t1, r s1 t1 ∈ D ∧ s1.pc = s.pc ∧ ∀ {w0 : Base} {φ : List Pl} {ac : Act} {w : World} {e : Ex} {s' : St} {t' : Ts}, Holds ρ s.pc → GA φ ρ t sz ac → Gm P ρ w0 φ s w →
      (∀ {ac' : Act} {w' : World}, GA φ ρ t1 sz ac' → Gm P ρ w0 φ s1 w' → (Code.loop c).wp P (Post P ρ w0 φ sz e s' t') ac' w') → (Code.loop c).wp P (Post P ρ w0 φ sz e s' t') ac w := by
  unfold acdG at hD
  obtain ⟨hb, h1⟩ := brec_inv hD
  obtain ⟨hdz, ⟨fk, fh, ft, fp⟩, fz⟩ := acdB_inv hb
  cases hv : iterV a.ps a.n (v0s a.ps) with
  | none => rw [hv] at h1; cases h1
  | some vs =>
    rw [hv] at h1
    rcases brec_cases (show Bool.rec (motive := fun _ => R) (failOf (acdT ih f sz c a.ps s (keepTs t a.keep))) (r ⟨putH (litE a.ps vs) s.hp, s.nx, s.pc⟩ (putT (litE a.ps vs) (keepTs t a.keep))) (isDone (acdT ih f sz c a.ps s (keepTs t a.keep))) ∈ D from h1) with ⟨hd, h2⟩ | ⟨_, h2⟩
    rotate_left
    · unfold failOf at h2
      cases hx : acdT ih f sz c a.ps s (keepTs t a.keep) <;> rw [hx] at h2 <;> cases h2
    refine ⟨_, _, h2, rfl, fun {w0 φ ac w e s' t'} hρ hg hm hnext => ?_⟩
    obtain ⟨u, S, hdone⟩ := isDone_inv hd
    rw [Bool.and_eq_true, Option.isNone_iff_eq_none] at ht
    obtain ⟨hat, htz⟩ := ht
    have zl : ∀ {us : List Int}, ∀ x ∈ litE a.ps us, x.1.tmp = true → x.1.id < sz := fun x hx => fz x.1 (litE_mem hx)
    have zv : ∀ x ∈ varE a.ps, x.1.tmp = true → x.1.id < sz := fun x hx => fz x.1 (varE_mem hx)
    have zs : ∀ x ∈ stepE a.ps, x.1.tmp = true → x.1.id < sz := fun x hx => fz x.1 (stepE_mem hx)
    have main : ∀ (n : Nat) (us : List Int) {a0 : Act} {w1 : World}, iterV a.ps n us = some vs → GA φ ρ (putT (litE a.ps us) (keepTs t a.keep)) sz a0 → Gm P ρ w0 φ ⟨putH (litE a.ps us) s.hp, s.nx, s.pc⟩ w1 → (Code.loop c).wp P (Post P ρ w0 φ sz e s' t') a0 w1 := by
      intro n
      induction n with
      | zero => intro us a0 w1 hi hg0 hm1; cases hi; exact hnext hg0 hm1
      | succ n ihn =>
        intro us a0 w1 hi hg0 hm1
        have hi : Bool.rec (motive := fun _ => Option (List Int)) none (Option.rec (motive := fun _ => Option (List Int)) none (fun vs => iterV a.ps n vs) (stepV (zipK a.ps us) a.ps)) (inV (zipK a.ps us) a.ps us) = some vs := hi
        cases hin : inV (zipK a.ps us) a.ps us with
        | false => rw [hin] at hi; cases hi
        | true =>
        rw [hin] at hi
        cases hst : stepV (zipK a.ps us) a.ps with
        | none => rw [hst] at hi; cases hi
        | some us' =>
        rw [hst] at hi
        have hi : iterV a.ps n us' = some vs := hi
        have hlook : ∀ i x, lookN (zipK a.ps us) i = some x → updPs ρ a.ps us i = x := fun i x h => lookN_upd h
        have hD' : acdT ih f sz c a.ps s (keepTs t a.keep) ∈ Dn.mk (updPs ρ a.ps us) u S := by rw [hdone]; exact ⟨rfl, rfl⟩
        unfold acdT at hD'
        obtain ⟨e1, s1, t1, h3, x1, h4⟩ := hih (updPs ρ a.ps us) hok hD'
        unfold acdEnd at h3
        split at h3
        rotate_left
        · cases h3
        obtain ⟨hc, _⟩ := brec_inv h3
        simp only [Bool.and_eq_true, Option.isNone_iff_eq_none] at hc
        obtain ⟨hhp, hts, hnz, hpc⟩ := hc
        have hpc := pcB_eq _ _ hpc
        have out : ∀ (a : Act) (w : World), ¬ Post P ρ w0 φ sz e s' t' .outgrown a w := fun a w hp => by cases e <;> cases hp.1
        have go : ∀ (l : Nat) (a : Act) (w : World), ¬ Post P ρ w0 φ sz e s' t' (.goto l) a w := fun l a w hp => by cases e <;> cases hp.1
        -- at the round's beginning, by letters
        have g1 : Gm P (updPs ρ a.ps us) w0 φ ⟨putH (litE a.ps us) s.hp, s.nx, s.pc⟩ w1 := hm1.freshP fk (fun p hp => litE_fr (fh p hp))
        have g2 : Gm P (updPs ρ a.ps us) w0 φ ⟨putH (varE a.ps) s.hp, s.nx, ⟨s.pc.l, s.pc.smp, setRgs s.pc.rg a.ps⟩⟩ w1 := g1.alike (putH_eq (alike_var hlook hin) (EqH.refl _)) _
        have freeT : ∀ (vs : List Int), ∀ p ∈ a.ps, Tr.all (AV.fr p.K) (putT (litE a.ps vs) (keepTs t a.keep)) = true := fun vs p hp => litT_fr (ft p hp)
        have t1g : GA φ (updPs ρ a.ps us) (putT (litE a.ps us) (keepTs t a.keep)) sz a0 := ⟨hg0.size, fun d y hy => by
          rw [conc_freshP fun p hp => Tr.all_get (freeT us p hp) hy]
          exact hg0.tm d y hy, by
          have hz0 : (putT (litE a.ps us) (keepTs t a.keep)).get sz = none := by
            cases hx : (putT (litE a.ps us) (keepTs t a.keep)).get sz with
            | none => rfl
            | some y =>
              rcases putT_get hx with h | ⟨x, hx2, h5, h6, _⟩
              · rw [hdz] at h; cases h
              · have := zl x hx2 h5
                omega
          have := hg0.df
          rw [hz0] at this ⊢
          generalize a0.defers = ds at this ⊢
          cases this
          exact .none⟩
        have t2g : GA φ (updPs ρ a.ps us) (putT (varE a.ps) (keepTs t a.keep)) sz a0 := t1g.alike (alike_var hlook hin) zv zl
        refine wp_loop_unroll out go (Code.wp_mono (fun e' a' w' hp => ?_) (h4 (w0 := w0) (φ := φ) (a := a0) (w := w1) ⟨?_, ?_⟩ t2g g2))
        · obtain ⟨rfl, φ', p1, q1, m1⟩ := hp
          -- back, at the round's end
          have b1 : Gm P (updPs ρ a.ps us) w0 φ ⟨putH (stepE a.ps) s.hp, s.nx, s.pc⟩ w' := Gm.backN p1 g2 (putH_eq alike_any (EqH.refl _)) hhp m1 s.pc
          have b2 : Gm P (updPs ρ a.ps us) w0 φ ⟨putH (litE a.ps us') s.hp, s.nx, s.pc⟩ w' := b1.alike (putH_eq (alike_step hlook hst) (EqH.refl _)) _
          obtain ⟨os, _, hos⟩ := updPs_back (ρ := ρ) (l := a.ps) (vs := us)
          have b3 : Gm P ρ w0 φ ⟨putH (litE a.ps us') s.hp, s.nx, s.pc⟩ w' := by
            have := b2.freshP (us := os) fk (fun p hp => litE_fr (fh p hp))
            rwa [hos] at this
          refine ihn us' hi ?_ b3
          -- the temporaries
          have c1 : GA φ (updPs ρ a.ps us) (putT (stepE a.ps) (keepTs t a.keep)) sz a' := by
            refine ⟨q1.size, fun d y hy => ?_, ?_⟩
            · have h6 := q1.tm d y (Tr.leB_get AV.beq_eq hts hy)
              rcases putT_get hy with h7 | ⟨x, _, _, _, rfl⟩
              · have h8 : conc φ (updPs ρ a.ps us) y = some (a0.tmps.getD d undef) ∨ True := .inr trivial
                -- it stood there ahead
                cases hy2 : (putT (litE a.ps us) (keepTs t a.keep)).get d with
                | none =>
                  exfalso
                  have : ∀ (m : List (Acp × SI)) (u : Ts), (u.get d).isSome = true → ((putT m u).get d).isSome = true := by
                    intro m
                    induction m with
                    | nil => intro u h; exact h
                    | cons x m ihm =>
                      intro u h
                      refine ihm _ ?_
                      cases x.1.tmp with
                      | false => exact h
                      | true =>
                        show ((Tr.set u x.1.id _).get d).isSome = true
                        rw [Tr.get_set]
                        split
                        · rfl
                        · exact h
                  have := this (litE a.ps us) (keepTs t a.keep) (by rw [h7]; rfl)
                  rw [hy2] at this
                  cases this
                | some z =>
                  by_cases hk : ∃ v, conc φ (updPs ρ a.ps us) y = some v
                  · obtain ⟨v, hv2⟩ := hk
                    rw [conc_mono p1 y v hv2] at h6
                    rw [hv2]
                    exact h6
                  · exfalso
                    have hfull := hg.tm d y (keepTs_get h7)
                    have : conc φ (updPs ρ a.ps us) y = conc φ ρ y := conc_freshP fun p hp => Tr.all_get (ft p hp) h7
                    exact hk ⟨_, this.trans hfull⟩
              · simpa only [conc] using h6
            · have hz0 : (putT (stepE a.ps) (keepTs t a.keep)).get sz = none := by
                cases hx : (putT (stepE a.ps) (keepTs t a.keep)).get sz with
                | none => rfl
                | some y =>
                  rcases putT_get hx with h | ⟨x, hx2, h5, h6, _⟩
                  · rw [hdz] at h; cases h
                  · have := zs x hx2 h5
                    omega
              rw [hz0]
              have := q1.df
              rw [hnz] at this
              generalize a'.defers = ds at this ⊢
              cases this
              exact .none
          have c2 : GA φ (updPs ρ a.ps us) (putT (litE a.ps us') (keepTs t a.keep)) sz a' := c1.alike (alike_step hlook hst) zl zs
          refine ⟨c2.size, fun d y hy => ?_, ?_⟩
          · rw [← c2.tm d y hy]
            exact (conc_freshP fun p hp => Tr.all_get (freeT us' p hp) hy).symm
          · have hz0 : (putT (litE a.ps us') (keepTs t a.keep)).get sz = none := by
              cases hx : (putT (litE a.ps us') (keepTs t a.keep)).get sz with
              | none => rfl
              | some y =>
                rcases putT_get hx with h | ⟨x, hx2, h5, h6, _⟩
                · rw [hdz] at h; cases h
                · have := zl x hx2 h5
                  omega
            have := c2.df
            rw [hz0] at this ⊢
            generalize a'.defers = ds at this ⊢
            cases this
            exact .none
        · intro y hy
          rw [hpc] at hy
          rw [SB.freshP fun p hp => List.all_eq_true.1 (fp p hp) y hy]
          exact hρ.l y hy
        · rw [x1.rg]
          exact rgOk_upd hρ.rg hin
    -- the beginning
    have gQ : ∀ a b c : SI, (a.ev ρ = b.ev ρ) → (b.ev ρ = c.ev ρ) → a.ev ρ = c.ev ρ := fun a b c h1 h2 => h1.trans h2
    refine main a.n (v0s a.ps) hv ?_ (hm.alike (acdAt_eq (Q := fun a b => a.ev ρ = b.ev ρ) gQ hat) _)
    refine ⟨hg.size, fun d y hy => ?_, ?_⟩
    · rcases putT_get hy with h | ⟨x, hx, h5, h6, rfl⟩
      · exact hg.tm d y (keepTs_get h)
      · have : ∀ (l : List Acp), acdAt l s.hp t = true → x ∈ litE l (v0s l) → x.1.tmp = true → t.get x.1.id = some (.int x.1.k x.2) := by
          intro l
          induction l with
          | nil => intro _ h; cases h
          | cons p l ihl =>
            intro h h2 h3
            have h : (isLitAt (acpAt s.hp t p) p.k p.v0 && acdAt l s.hp t) = true := h
            rw [Bool.and_eq_true] at h
            rcases List.mem_cons.1 (show x ∈ (p, SI.lit p.v0) :: litE l (v0s l) from h2) with rfl | h2
            · have := isLitAt_of h.1
              unfold acpAt at this
              have h3 : p.tmp = true := h3
              rw [h3] at this
              exact this
            · exact ihl h.2 h2 h3
        rw [← h6]
        exact hg.tm _ _ (this a.ps hat hx h5)
    · have hz0 : (putT (litE a.ps (v0s a.ps)) (keepTs t a.keep)).get sz = none := by
        cases hx : (putT (litE a.ps (v0s a.ps)) (keepTs t a.keep)).get sz with
        | none => rfl
        | some y =>
          rcases putT_get hx with h | ⟨x, hx2, h5, h6, _⟩
          · rw [hdz] at h; cases h
          · have := zl x hx2 h5
            omega
      rw [hz0]
      have := hg.df
      rw [htz] at this
      generalize ac.defers = ds at this ⊢
      cases this
      exact .none
theorem acdK_sound {ih : EvT} (hih : ∀ ρ, CodeSound P ρ pl ih) {f sz : Nat} {c : Code} (hok : codeOk pl f c = true) {s : St} {t : Ts} {r : St → Ts → R} {alt : R} {D : Dn} : ∀ {l : List Acd}, acdK ih f sz c s t r alt l ∈ D → alt ∈ D ∨ ∃ s1 t1, r s1 t1 ∈ D ∧ s1.pc = s.pc ∧ ∀ {w0 : Base} {φ : List Pl} {ac : Act} {w : World} {e : Ex} {s' : St} {t' : Ts}, Holds ρ s.pc → GA φ ρ t sz ac → Gm P ρ w0 φ s w →
      (∀ {ac' : Act} {w' : World}, GA φ ρ t1 sz ac' → Gm P ρ w0 φ s1 w' → (Code.loop c).wp P (Post P ρ w0 φ sz e s' t') ac' w') → (Code.loop c).wp P (Post P ρ w0 φ sz e s' t') ac w
  | [], h => .inl h
  | a :: l, h => by
    have h : Bool.rec (motive := fun _ => R) (acdK ih f sz c s t r alt l) (Bool.rec (motive := fun _ => R) (acdK ih f sz c s t r alt l) (acdG ih f sz c a s (keepTs t a.keep) r) (acdAt a.ps s.hp t && Option.isNone (t.get sz))) (Nat.beq a.f f) ∈ D := h
    rcases brec_cases h with ⟨_, h1⟩ | ⟨_, h1⟩
    · rcases brec_cases h1 with ⟨h2, h3⟩ | ⟨_, h3⟩
      · exact .inr (acdG_sound hih hok h2 h3)
      · exact acdK_sound hih hok h3
    · exact acdK_sound hih hok h1
end
end Go.Proofs.YticednpolhnneaaGreat

/-
  Patterns: where a state is found again under other names, it is the pattern's; code that goes from pattern to pattern.
-/
import Derived.Test.YtooebogidjejoaaGreatSub
import Derived.Test.YtooebogidjejoaaGreatEvl
set_option linter.unusedVariables false
set_option linter.unusedSimpArgs false
namespace Go.Proofs.YtooebogidjejoaaGreat
open Go

noncomputable section
/-- things and temporaries, told by letters -/
structure Pat where
  nx : Nat
  hp : List (Nat × AObj)
  ord : List Nat
  wit : Nat
  tm : List (Nat × AV)
  rg : List (Int × Int)
def Pat.h (p : Pat) : Tr AObj := setH .nil p.hp
def tsP (l : List (Nat × AV)) (t : Ts) : Ts := List.rec (motive := fun _ => Ts) t (fun x _ ih => Tr.set ih x.1 x.2) l
def Pat.ts (p : Pat) (sz : Nat) : Ts := tsP p.tm (skel (nat_lit 8))
def Pat.st (p : Pat) (l : List (SB × Bool)) : St := ⟨p.h, p.nx, ⟨l, [[]], p.rg⟩⟩
/-- what a pattern has to be -/
def Pat.okB (p : Pat) (sz : Nat) : Bool := (Tr.toL p.h (nat_lit 0) (nat_lit 1) []).all (fun x => Nat.blt x.1 p.nx && ((deadB x.2 || okO x.2) && AObj.idB (liveAt p.h) x.2)) && (p.tm.all (fun x => Nat.blt x.1 sz && (okA x.2 && AV.idB (liveAt p.h) x.2)) && (Nat.beq p.nx (nat_lit 0) || liveAt p.h p.wit))
def bndTm (t : Ts) (l : List (Nat × AV)) : Ren → Option Ren := List.rec (motive := fun _ => Ren → Option Ren) (fun r => some r) (fun x _ ih r => Option.rec (motive := fun _ => Option Ren) none (fun u => ih (bndA x.2 u r)) (t.get x.1)) l
def chkTm (rg : List (Int × Int)) (r : Ren) (t : Ts) (l : List (Nat × AV)) : Bool := List.rec (motive := fun _ => Bool) true (fun x _ ih => Option.rec (motive := fun _ => Bool) false (fun u => subA rg r x.2 (fun v => AV.beq v u)) (t.get x.1) && ih) l
def chkM (p : Pat) (sz : Nat) (s : St) (t : Ts) (r : Ren) : Bool := chkTm s.pc.rg r t p.tm && (isN (t.get sz) && chkH s.pc.rg r s.hp (Tr.toL p.h (nat_lit 0) (nat_lit 1) []) .nil)
def matchP (p : Pat) (sz : Nat) (s : St) (t : Ts) (no : R) (κ : Ren → R) : R := Option.rec (motive := fun _ => R) no (fun r => Option.rec (motive := fun _ => R) no (fun r => frcT r.ids fun a => frcU r.si fun b => frcT r.rw fun c => Bool.rec (motive := fun _ => R) no (κ ⟨a, b, c, p.nx, s.nx⟩) (chkM p sz s t ⟨a, b, c, p.nx, s.nx⟩)) (bndH p.h s.hp p.ord r)) (bndTm t p.tm ⟨.nil, .nil, .nil, p.nx, s.nx⟩)
end

theorem skel_getP {d : Nat} : ∀ q : Pos, Tr.getP q (skel d) = none := by
  induction d with
  | zero => intro q; exact Tr.getP_nil q
  | succ d ih =>
    intro q
    cases q with
    | here => rfl
    | left q => exact ih q
    | right q => exact ih q
theorem tsP_get : ∀ {l : List (Nat × AV)} {t : Ts} {d : Nat} {v : AV}, (tsP l t).get d = some v → (∃ x ∈ l, x.1 = d ∧ x.2 = v) ∨ t.get d = some v
  | [], t, d, v, h => .inr h
  | x :: l, t, d, v, h => by
    have h : (Tr.set (tsP l t) x.1 x.2).get d = some v := h
    rw [Tr.get_set] at h
    split at h
    · rename_i he
      cases h
      exact .inl ⟨x, by simp, he.symm, rfl⟩
    · rcases tsP_get h with ⟨y, h1, h2⟩ | h1
      · exact .inl ⟨y, by simp [h1], h2⟩
      · exact .inr h1
section
variable {P : Program} {ρ : Nat → Int} {w0 : Base} {φ : List Pl} {w : World} {r : Ren} {s : St}
/-- what stands here, is what stands there -/
theorem Gm.sub {h : Tr AObj} {nx wit : Nat} {pc : PC} (hrg : RgOk ρ s.pc.rg) (hm : Gm P ρ w0 φ s w) (c4 : chkH s.pc.rg r s.hp (Tr.toL h (nat_lit 0) (nat_lit 1) []) .nil = true) (t4 : ∀ {i o}, h.get i = some o → i < nx ∧ (deadB o = true ∨ okO o = true) ∧ AObj.idB (liveAt h) o = true) (hany : nx = 0 ∨ liveAt h wit = true) :
    ∃ w0' φ', w0'.w0 = w0.w0 ∧ (∀ i, liveAt h i = true → φ'[i]? = φ[r.id i]?) ∧ Gm P (r.rho ρ) w0' φ' ⟨h, nx, pc⟩ w := by
  obtain ⟨k1, k2⟩ := chkH_inv c4
  have deadB_of : ∀ {o : AObj}, live o = true → deadB o = false := by
    intro o ho
    unfold deadB
    rw [notF_eq, ho]
    rfl
  have hlv : ∀ {i o}, h.get i = some o → live o = true → ∃ u p, s.hp.get (r.id i) = some u ∧ SubOV s.pc.rg r o u ∧ φ[r.id i]? = some p ∧ i < nx ∧ okO o = true := by
    intro i o ho hl
    obtain ⟨u, b1, b2, _⟩ := k1 _ (toL_get ho) (deadB_of hl)
    obtain ⟨p, hp⟩ := (hm.hp.obj _ _ b1).pl
    obtain ⟨s1', s2', _⟩ := t4 ho
    refine ⟨u, p, b1, b2, hp, s1', ?_⟩
    rcases s2' with h | h
    · rw [deadB_of hl] at h; cases h
    · exact h
  have hinj : ∀ {i j : Nat}, liveAt h i = true → liveAt h j = true → r.id i = r.id j → i = j := by
    intro i j hi hj he
    obtain ⟨o, ho, hl⟩ := liveAt_of hi
    obtain ⟨o', ho', hl'⟩ := liveAt_of hj
    have := k2 _ (toL_get ho) _ (toL_get ho') (deadB_of hl) (deadB_of hl') he
    exact congrArg Prod.fst this
  have hL : ∀ {i}, liveAt h i = true → ∃ p, φ[r.id i]? = some p ∧ i < nx := by
    intro i hi
    obtain ⟨o, ho, hl⟩ := liveAt_of hi
    obtain ⟨u, p, _, _, b3, b5, _⟩ := hlv ho hl
    exact ⟨p, b3, b5⟩
  obtain ⟨q0, hq0⟩ : ∃ q0 : Pl, nx = 0 ∨ ∃ i0, liveAt h i0 = true ∧ φ[r.id i0]? = some q0 := by
    rcases hany with h | h
    · exact ⟨⟨0, 0, 0, 0⟩, .inl h⟩
    · obtain ⟨p, hp, _⟩ := hL h
      exact ⟨p, .inr ⟨_, h, hp⟩⟩
  generalize hφS : (List.range nx).map (fun i => if liveAt h i then (φ[r.id i]?).getD q0 else q0) = φS
  have hSget : ∀ i, φS[i]? = if i < nx then some (if liveAt h i then (φ[r.id i]?).getD q0 else q0) else none := by
    intro i
    rw [← hφS, List.getElem?_map]
    by_cases hi : i < nx
    · rw [if_pos hi, List.getElem?_range hi]; rfl
    · rw [if_neg hi, List.getElem?_eq_none (by simp; omega)]; rfl
  have hSlen : φS.length = nx := by rw [← hφS]; simp
  have hSk : ∀ i, liveAt h i = true → φS[i]? = φ[r.id i]? := by
    intro i hi
    obtain ⟨p, b1, b3⟩ := hL hi
    rw [hSget i, if_pos b3, if_pos hi, b1]
    rfl
  have hSback : ∀ {i : Nat} {p : Pl}, φS[i]? = some p → ∃ j, liveAt h j = true ∧ φ[r.id j]? = some p := by
    intro i p hp
    rw [hSget i] at hp
    split at hp
    · rename_i hi
      cases hp
      split
      · rename_i hl
        obtain ⟨p, b1, _⟩ := hL hl
        exact ⟨i, hl, by rw [b1]; rfl⟩
      · rcases hq0 with h | ⟨i0, h1, h2⟩
        · omega
        · exact ⟨i0, h1, h2⟩
    · cases hp
  refine ⟨w0, φS, rfl, hSk, ⟨⟨fun id o ho => ?_, fun i j o o' p q hi hj hl hl' hp hq he => ?_⟩, hSlen, fun id o ho => (t4 ho).1, fun id p hp => ?_, hm.kp, fun y hy => ?_, Ren.rho_fo hm.fo⟩⟩
  · have ho : h.get id = some o := ho
    cases hlo : live o with
    | true =>
      obtain ⟨u, p, b1, b2, b3, b5, b6⟩ := hlv ho hlo
      exact (ObjOk.sub hrg hSk (hSk id (liveAt_mk ho hlo)) b6 (t4 ho).2.2 b2).1 (hm.hp.obj _ _ b1)
    | false =>
      cases o <;> first | cases hlo | skip
      have := (t4 ho).1
      exact ⟨_, by rw [hSget id, if_pos this]⟩
  · have hi : h.get i = some o := hi
    have hj : h.get j = some o' := hj
    rw [hSk i (liveAt_mk hi hl)] at hp
    rw [hSk j (liveAt_mk hj hl')] at hq
    obtain ⟨u, _, b1, b2, _⟩ := hlv hi hl
    obtain ⟨u', _, d1, d2, _⟩ := hlv hj hl'
    exact hinj (liveAt_mk hi hl) (liveAt_mk hj hl') (hm.hp.sep _ _ u u' p q b1 d1 (by rw [b2.live]; exact hl) (by rw [d2.live]; exact hl') hp hq he)
  · obtain ⟨j, h1, h3⟩ := hSback hp
    exact hm.lo _ p h3
  · obtain ⟨a1, a2, a3⟩ := hm.fr y hy
    refine ⟨a1, a2, fun id p hp => ?_⟩
    obtain ⟨j, h1, h3⟩ := hSback hp
    exact a3 _ p h3
theorem Pat.okB_h {p : Pat} {sz : Nat} (hp : p.okB sz = true) : (∀ {i o}, p.h.get i = some o → i < p.nx ∧ (deadB o = true ∨ okO o = true) ∧ AObj.idB (liveAt p.h) o = true) ∧ (∀ x ∈ p.tm, x.1 < sz ∧ okA x.2 = true ∧ AV.idB (liveAt p.h) x.2 = true) ∧ (p.nx = 0 ∨ liveAt p.h p.wit = true) := by
  simp only [Pat.okB, Bool.and_eq_true, Bool.or_eq_true, natBeq, decide_eq_true_eq] at hp
  refine ⟨fun {i o} ho => ?_, fun x hx => ?_, hp.2.2⟩
  · have := List.all_eq_true.1 hp.1 _ (toL_get ho)
    simp only [Bool.and_eq_true, Bool.or_eq_true, natBlt, decide_eq_true_eq] at this
    exact ⟨this.1, this.2.1, this.2.2⟩
  · have := List.all_eq_true.1 hp.2.1 x hx
    simp only [Bool.and_eq_true, natBlt, decide_eq_true_eq] at this
    exact ⟨this.1, this.2.1, this.2.2⟩
theorem chkTm_inv {rg : List (Int × Int)} {t : Ts} : ∀ {l : List (Nat × AV)}, chkTm rg r t l = true → ∀ x ∈ l, ∃ u, t.get x.1 = some u ∧ SubAV rg r x.2 u
  | [], _, x, hx => by cases hx
  | y :: l, h, x, hx => by
    have h : (Option.rec (motive := fun _ => Bool) false (fun u => subA rg r y.2 (fun v => AV.beq v u)) (t.get y.1) && chkTm rg r t l) = true := h
    rw [Bool.and_eq_true] at h
    rcases List.mem_cons.1 hx with rfl | hx
    · cases hg : t.get x.1 with
      | none => rw [hg] at h; cases h.1
      | some u =>
        rw [hg] at h
        obtain ⟨v, e1, e2⟩ := subA_spec (rg := rg) (r := r) x.2 fun v => AV.beq v u
        have h1 := h.1
        simp only at h1
        rw [e1] at h1
        have := AV.beq_eq _ _ h1
        subst this
        exact ⟨v, rfl, e2⟩
    · exact chkTm_inv h.2 x hx
theorem matchP_inv {D : Dn} {p : Pat} {sz : Nat} (hp : p.okB sz = true) {t : Ts} {no : R} {κ : Ren → R} (h : matchP p sz s t no κ ∈ D) : no ∈ D ∨ ∃ r, κ r ∈ D ∧ ∀ {ρ w0 φ a w} {l : List (SB × Bool)}, Holds ρ s.pc → GA φ ρ t sz a → Gm P ρ w0 φ s w → ∃ w0' φ', w0'.w0 = w0.w0 ∧ GA φ' (r.rho ρ) (p.ts sz) sz a ∧ Gm P (r.rho ρ) w0' φ' (p.st l) w := by
  unfold matchP at h
  cases hb : bndTm t p.tm ⟨.nil, .nil, .nil, p.nx, s.nx⟩ with
  | none => rw [hb] at h; exact .inl h
  | some r1 =>
    rw [hb] at h
    have h : Option.rec (motive := fun _ => R) no (fun r => frcT r.ids fun a => frcU r.si fun b => frcT r.rw fun c => Bool.rec (motive := fun _ => R) no (κ ⟨a, b, c, p.nx, s.nx⟩) (chkM p sz s t ⟨a, b, c, p.nx, s.nx⟩)) (bndH p.h s.hp p.ord r1) ∈ D := h
    cases hb2 : bndH p.h s.hp p.ord r1 with
    | none => rw [hb2] at h; exact .inl h
    | some r2 =>
      rw [hb2] at h
      have h : (frcT r2.ids fun a => frcU r2.si fun b => frcT r2.rw fun c => Bool.rec (motive := fun _ => R) no (κ ⟨a, b, c, p.nx, s.nx⟩) (chkM p sz s t ⟨a, b, c, p.nx, s.nx⟩)) ∈ D := h
      rw [frcT_eq, frcU_eq, frcT_eq] at h
      rcases brec_cases h with ⟨hc, h1⟩ | ⟨_, h1⟩
      rotate_left
      · exact .inl h1
      refine .inr ⟨_, h1, fun {ρ w0 φ a w l} hρ hg hm => ?_⟩
      simp only [chkM, Bool.and_eq_true, isN_iff] at hc
      obtain ⟨c1, c2, c3⟩ := hc
      obtain ⟨p1, p2, p3⟩ := Pat.okB_h hp
      obtain ⟨w0', φ', e1, e2, e3⟩ := Gm.sub (pc := ⟨l, [[]], p.rg⟩) hρ.rg hm c3 p1 p3
      refine ⟨w0', φ', e1, ⟨hg.size, fun d v hv => ?_, ?_⟩, e3⟩
      · rcases tsP_get hv with ⟨x, hx, rfl, rfl⟩ | hv
        · obtain ⟨u, u1, u2⟩ := chkTm_inv c1 x hx
          have := u2.2 _ ρ φ φ' (p2 x hx).2.1 (p2 x hx).2.2 hρ.rg e2
          rw [← this]
          exact hg.tm _ _ u1
        · rw [show (skel 8).get d = none from skel_getP _] at hv
          cases hv
      · cases hs : (p.ts sz).get sz with
        | none =>
          have := hg.df
          rw [c2] at this
          generalize a.defers = ds at this ⊢
          cases this
          exact .none
        | some v =>
          rcases tsP_get hs with ⟨x, hx, h5, _⟩ | hv
          · have := (p2 x hx).1
            omega
          · rw [show (skel 8).get sz = none from skel_getP _] at hv
            cases hv
end

end Go.Proofs.YtooebogidjejoaaGreat

/-
  A run reckoned ahead: rounds of a loop that leave all as it is, but for one number.
-/
import Derived.Test.YticednpolhnneaaGreatSxr
set_option linter.unusedVariables false
set_option linter.unusedSimpArgs false
namespace Go.Proofs.YticednpolhnneaaGreat
open Go

/-! a letter's value is put anew -/
def updL (ρ : Nat → Int) (K : Nat) (v : Int) : Nat → Int := fun i => if i = K then v else ρ i
theorem updL_ne {ρ : Nat → Int} {K i : Nat} {v : Int} (h : i ≠ K) : updL ρ K v i = ρ i := if_neg h
theorem updL_row {ρ : Nat → Int} {K : Nat} {v : Int} (hK : K < 32) (a i : Nat) : rowB (updL ρ K v) a i = rowB ρ a i := by
  unfold rowB
  rw [updL_ne (by unfold rowIx; omega)]
theorem updL_rs {ρ : Nat → Int} {K : Nat} {v : Int} (hK : K < 32) (a p o : Nat) : ∀ n, rsZ (updL ρ K v) a p o n = rsZ ρ a p o n
  | 0 => rfl
  | n + 1 => by simp only [rsZ, updL_row hK, updL_rs hK a p o n]
section
variable {ρ : Nat → Int} {K : Nat} {v : Int} {φ φ' : List Pl}
theorem SI.fr_ev : ∀ {e : SI}, SI.fr K e = true → e.ev (updL ρ K v) = e.ev ρ := by
  intro e
  induction e with
  | lit n => intro _; rfl
  | var i =>
    intro h
    have h : notF (Nat.beq i K) = true := h
    rw [notF_eq, natBeq] at h
    simp only [Bool.not_eq_true', decide_eq_false_iff_not] at h
    show updL ρ K v i = ρ i
    exact if_neg h
  | bin op k a b iha ihb =>
    intro h
    have h : (SI.fr K a && SI.fr K b) = true := h
    rw [Bool.and_eq_true] at h
    simp only [SI.ev, iha h.1, ihb h.2]
  | conv k a ih => intro h; simp only [SI.ev, ih (show SI.fr K a = true from h)]
  | fold a ih => intro h; simp only [SI.ev, ih (show SI.fr K a = true from h)]
  | rs a p o n iho ihn =>
    intro h
    have h : (Nat.blt K (nat_lit 32) && (SI.fr K o && SI.fr K n)) = true := h
    simp only [Bool.and_eq_true, natBlt, decide_eq_true_eq] at h
    simp only [SI.ev, iho h.2.1, ihn h.2.2, updL_rs h.1]
theorem SB.fr_ev : ∀ {c : SB}, SB.fr K c = true → c.ev (updL ρ K v) = c.ev ρ := by
  intro c
  induction c with
  | lit b => intro _; rfl
  | cmp op a b =>
    intro h
    have h : (SI.fr K a && SI.fr K b) = true := h
    rw [Bool.and_eq_true] at h
    simp only [SB.ev, SI.fr_ev h.1, SI.fr_ev h.2]
  | not a ih => intro h; simp only [SB.ev, ih (show SB.fr K a = true from h)]
mutual
theorem AV.fr_conc : ∀ (x : AV), AV.fr K x = true → conc φ (updL ρ K v) x = conc φ ρ x
  | .int k e, h => by simp only [AV.fr] at h; simp only [conc, SI.fr_ev h]
  | .bool b, h => by simp only [AV.fr] at h; simp only [conc, SB.fr_ev h]
  | .ptr _ _, _ => by simp only [conc]
  | .sl _ _ _ _, _ => by simp only [conc]
  | .emp _ _ _, _ => by simp only [conc]
  | .em0 _ _ _, _ => by simp only [conc]
  | .map _, _ => by simp only [conc]
  | .fn f a b, h => by simp only [AV.fr, Bool.and_eq_true] at h; simp only [conc, AV.frL_conc a h.1, AV.frL_conc b h.2]
  | .iface t x, h => by simp only [AV.fr] at h; simp only [conc, AV.fr_conc x h]
  | .agg l, h => by simp only [AV.fr] at h; simp only [conc, AV.frL_conc l h]
  | .tup l, h => by simp only [AV.fr] at h; simp only [conc, AV.frL_conc l h]
  | .raw _, _ => by simp only [conc]
  | .opq _, _ => by simp only [conc]
  | .osl p k c, h => by
    simp only [AV.fr, Bool.and_eq_true, notF_eq, natBeq, natBlt, natBle, Bool.not_eq_true', decide_eq_false_iff_not, decide_eq_true_eq] at h
    obtain ⟨h0, h1, h2, h3⟩ := h
    simp only [conc, adrL, updL_ne (v := v) h3, updL_ne (v := v) (show c ≠ K by omega), updL_ne (v := v) (show p ≠ K by omega), updL_ne (v := v) (show p + 1 ≠ K by omega), updL_ne (v := v) (show p + 2 ≠ K by omega)]
  | .dfr _ _ _, h => by simp [AV.fr] at h
  | .ssl i a b c d, h => by
    simp only [AV.fr, Bool.and_eq_true] at h
    obtain ⟨h1, h2, h3, h4⟩ := h
    cases d with
    | none => simp only [conc, SI.fr_ev h1, SI.fr_ev h2, SI.fr_ev h3]
    | some x => simp only [conc, SI.fr_ev h1, SI.fr_ev h2, SI.fr_ev h3, SI.fr_ev h4]
  | .fsl j a b c, h => by
    simp only [AV.fr, Bool.and_eq_true, natBlt, natBle, decide_eq_true_eq] at h
    obtain ⟨h0, hj, h1, h2, h3⟩ := h
    simp only [conc, updL_ne (v := v) (show j ≠ K by omega), SI.fr_ev h1, SI.fr_ev h2, SI.fr_ev h3, updL_ne (v := v) (show fMark j ≠ K by unfold fMark; omega), updL_ne (v := v) (show fBlk j ≠ K by unfold fBlk; omega), updL_ne (v := v) (show fOff j ≠ K by unfold fOff; omega), updL_ne (v := v) (show fCap j ≠ K by unfold fCap; omega)]
theorem AV.frL_conc : ∀ (l : List AV), AV.frL K l = true → concL φ (updL ρ K v) l = concL φ ρ l
  | [], _ => rfl
  | x :: l, h => by
    simp only [AV.frL, Bool.and_eq_true] at h
    simp only [concL, AV.fr_conc x h.1, AV.frL_conc l h.2]
end
end

/-! what is in both, is the same -/
theorem Tr.all_get {α : Type} {p : α → Bool} : ∀ {t : Tr α}, Tr.all p t = true → ∀ {q : Pos} {x : α}, Tr.getP q t = some x → p x = true := by
  intro t
  induction t with
  | nil => intro _ q x hx; rw [Tr.getP_nil] at hx; cases hx
  | node v l r ihl ihr =>
    intro h q x hx
    have h : (optB p v && (Tr.all p l && Tr.all p r)) = true := h
    simp only [Bool.and_eq_true] at h
    cases q with
    | here =>
      have hx : v = some x := hx
      have h1 := h.1
      rw [hx] at h1
      exact h1
    | left q => exact ihl h.2.1 (show Tr.getP q l = some x from hx)
    | right q => exact ihr h.2.2 (show Tr.getP q r = some x from hx)
theorem optE_eq {α : Type} {q : α → α → Bool} (hq : ∀ a b, q a b = true → a = b) {a b : Option α} (h : optE q a b = true) : a = b := by
  unfold optE at h
  split at h
  · split at h
    · rfl
    · cases h
  · split at h
    · cases h
    · rw [hq _ _ h]
theorem Tr.eqB_eq {α : Type} {q : α → α → Bool} (hq : ∀ a b, q a b = true → a = b) : ∀ {t u : Tr α}, Tr.eqB q t u = true → t = u := by
  intro t
  induction t with
  | nil => intro u h; cases u with | nil => rfl | node _ _ _ => cases h
  | node v l r ihl ihr =>
    intro u h
    cases u with
    | nil => cases h
    | node v' l' r' =>
      have h : (optE q v v' && (Tr.eqB q l l' && Tr.eqB q r r')) = true := h
      simp only [Bool.and_eq_true] at h
      rw [optE_eq hq h.1, ihl h.2.1, ihr h.2.2]
theorem Tr.leB_get {α : Type} {q : α → α → Bool} (hq : ∀ a b, q a b = true → a = b) : ∀ {t u : Tr α}, Tr.leB q t u = true → ∀ {p : Pos} {x : α}, Tr.getP p t = some x → Tr.getP p u = some x := by
  intro t
  induction t with
  | nil => intro u h p x hx; rw [Tr.getP_nil] at hx; cases hx
  | node v l r ihl ihr =>
    intro u h p x hx
    cases u with
    | nil => cases h
    | node v' l' r' =>
      have h2 : (v = none ∨ ∃ x y, v = some x ∧ v' = some y ∧ q x y = true) ∧ Tr.leB q l l' = true ∧ Tr.leB q r r' = true := by
        clear hx
        cases v with
        | none =>
          have h : (true && (Tr.leB q l l' && Tr.leB q r r')) = true := h
          simp only [Bool.and_eq_true] at h
          exact ⟨.inl rfl, h.2⟩
        | some a =>
          cases v' with
          | none => cases h
          | some b =>
            have h : (q a b && (Tr.leB q l l' && Tr.leB q r r')) = true := h
            simp only [Bool.and_eq_true] at h
            exact ⟨.inr ⟨a, b, rfl, rfl, h.1⟩, h.2⟩
      cases p with
      | here =>
        have hx : v = some x := hx
        rcases h2.1 with h1 | ⟨a, b, h1, h3, h4⟩
        · rw [h1] at hx; cases hx
        · rw [h1] at hx; cases hx
          show v' = some x
          rw [h3, hq _ _ h4]
      | left p => exact ihl h2.2.1 (show Tr.getP p l = some x from hx)
      | right p => exact ihr h2.2.2 (show Tr.getP p r = some x from hx)
theorem entEq_eq : ∀ (a b : List (AV × AV × Nat)), entEq a b = true → a = b
  | [], b, h => by cases b with | nil => rfl | cons _ _ => cases h
  | e :: l, b, h => by
    cases b with
    | nil => cases h
    | cons e' l' =>
      have h : (AV.beq e.1 e'.1 && (AV.beq e.2.1 e'.2.1 && (Nat.beq e.2.2 e'.2.2 && entEq l l'))) = true := h
      simp only [Bool.and_eq_true, natBeq, decide_eq_true_eq] at h
      rw [entEq_eq l l' h.2.2.2, show e = e' from Prod.ext (AV.beq_eq _ _ h.1) (Prod.ext (AV.beq_eq _ _ h.2.1) h.2.2.1)]
theorem siL_eq : ∀ (a b : List SI), siL a b = true → a = b
  | [], b, h => by cases b with | nil => rfl | cons _ _ => cases h
  | a :: l, b, h => by
    cases b with
    | nil => cases h
    | cons b m =>
      have h : (SI.beq a b && siL l m) = true := h
      simp only [Bool.and_eq_true] at h
      rw [SI.beq_eq _ _ h.1, siL_eq l m h.2]
theorem Ch.beq_eq {a b : Ch} (h : Ch.beq a b = true) : a = b := by
  cases a <;> cases b <;> simp only [Ch.beq, Bool.and_eq_true, natBeq, decide_eq_true_eq, Bool.false_eq_true] at h
  · rw [siL_eq _ _ h]
  · rw [SI.beq_eq _ _ h.1, SI.beq_eq _ _ h.2]
  · rw [h.1, SI.beq_eq _ _ h.2.1, SI.beq_eq _ _ h.2.2]
theorem chL_eq : ∀ (a b : List Ch), chL a b = true → a = b
  | [], b, h => by cases b with | nil => rfl | cons _ _ => cases h
  | a :: l, b, h => by
    cases b with
    | nil => cases h
    | cons b m =>
      have h : (Ch.beq a b && chL l m) = true := h
      simp only [Bool.and_eq_true] at h
      rw [Ch.beq_eq h.1, chL_eq l m h.2]
theorem AObj.beq_eq {a b : AObj} (h : AObj.beq a b = true) : a = b := by
  unfold AObj.beq at h
  split at h
  · split at h
    · simp only [Bool.and_eq_true, natBeq, decide_eq_true_eq, beq_iff_eq] at h
      obtain ⟨rfl, rfl, rfl, h4, h5⟩ := h
      rw [optE_eq AV.beq_eq h4, Tr.eqB_eq AV.beq_eq h5]
    · cases h
  · split at h
    · simp only [Bool.and_eq_true, natBeq, decide_eq_true_eq] at h
      obtain ⟨rfl, h2⟩ := h
      rw [entEq_eq _ _ h2]
    · cases h
  · split at h
    · simp only [Bool.and_eq_true, natBeq, decide_eq_true_eq, beq_iff_eq] at h
      obtain ⟨rfl, rfl, rfl, rfl⟩ := h
      rfl
    · cases h
  · split at h
    · simp only [Bool.and_eq_true, natBeq, decide_eq_true_eq, beq_iff_eq] at h
      obtain ⟨rfl, rfl, h3⟩ := h
      rw [chL_eq _ _ h3]
    · cases h
  · split at h
    · rfl
    · cases h
theorem pcB_eq : ∀ (l m : List (SB × Bool)), pcB l m = true → l = m
  | [], m, h => by cases m with | nil => rfl | cons _ _ => cases h
  | a :: l, m, h => by
    cases m with
    | nil => cases h
    | cons b m =>
      have h : (SB.beq a.1 b.1 && ((a.2 == b.2) && pcB l m)) = true := h
      simp only [Bool.and_eq_true, beq_iff_eq] at h
      rw [show a = b from Prod.ext (SB.beq_eq _ _ h.1) h.2.1, pcB_eq l m h.2.2]
theorem rgB_eq : ∀ (l m : List (Int × Int)), rgB l m = true → l = m
  | [], m, h => by cases m with | nil => rfl | cons _ _ => cases h
  | a :: l, m, h => by
    cases m with
    | nil => cases h
    | cons b m =>
      have h : (beqF a.1 b.1 && (beqF a.2 b.2 && rgB l m)) = true := h
      simp only [Bool.and_eq_true, beqF_eq, decide_eq_true_eq] at h
      rw [show a = b from Prod.ext h.1 h.2.1, rgB_eq l m h.2.2]
theorem keepTs_get : ∀ {l : List Nat} {t : Ts} {d : Nat} {v : AV}, (keepTs t l).get d = some v → t.get d = some v
  | [], t, d, v, h => by rw [show keepTs t [] = Ts.nil from rfl, Ts.get_nil] at h; cases h
  | e :: l, t, d, v, h => by
    unfold keepTs at h
    split at h
    · rename_i x hx
      rcases Ts.get_put e x (keepTs t l) d with ⟨h1, rfl⟩ | ⟨h1, _⟩ | ⟨_, h1⟩
      · rw [h1] at h; cases h; exact hx
      · rw [h1] at h; exact keepTs_get h
      · rw [h1] at h; cases h
    · exact keepTs_get h
theorem isDone_inv {r : R} (h : isDone r = true) : ∃ v s, r = .done v s := by
  cases r with
  | done v s => exact ⟨v, s, rfl⟩
  | fail _ => cases h
  | dead => cases h
  | fork _ _ _ => cases h

/-! back to what was there -/
section
variable {P : Program} {ρ : Nat → Int} {K : Nat} {v : Int} {φ φ' : List Pl} {w w' : World}
theorem conc_back (hp : φ <+: φ') {x : AV} {y z : Value} (hf : AV.fr K x = true) (h : conc φ ρ x = some y) (h' : conc φ' (updL ρ K v) x = some z) : y = z := by
  rw [AV.fr_conc x hf, conc_mono hp x y h] at h'
  exact Option.some.inj h'
theorem EntOk.back (hp : φ <+: φ') : ∀ {es : List (AV × AV × Nat)} {ms ms' : List MapEntry}, entFr K es = true → EntOk φ ρ es ms → EntOk φ' (updL ρ K v) es ms' → EntOk φ ρ es ms'
  | [], _, _, _, h, h' => by cases h'; exact .nil
  | (a, b, n) :: es, _, _, hf, h, h' => by
    cases h with
    | cons hk hv hr =>
      cases h' with
      | cons hk' hv' hr' =>
        have hf : ((AV.fr K a && AV.fr K b) && es.all (fun e => AV.fr K e.1 && AV.fr K e.2.1)) = true := hf
        simp only [Bool.and_eq_true] at hf
        have e1 := conc_back hp hf.1.1 hk hk'
        have e2 := conc_back hp hf.1.2 hv hv'
        subst e1; subst e2
        exact .cons hk hv (EntOk.back hp (show entFr K es = true from hf.2) hr hr')
theorem Ch.fr_zs {c : Ch} (h : Ch.fr K c = true) : c.zs (updL ρ K v) = c.zs ρ := by
  cases c with
  | bs l =>
    have h : l.all (SI.fr K) = true := h
    simp only [Ch.zs]
    exact List.map_congr_left fun e he => SI.fr_ev (List.all_eq_true.1 h e he)
  | fil n x =>
    have h : (SI.fr K n && SI.fr K x) = true := h
    rw [Bool.and_eq_true] at h
    simp only [Ch.zs, SI.fr_ev h.1, SI.fr_ev h.2]
  | row a o n =>
    have h : (Nat.blt K (nat_lit 32) && (SI.fr K o && SI.fr K n)) = true := h
    simp only [Bool.and_eq_true, natBlt, decide_eq_true_eq] at h
    simp only [Ch.zs, SI.fr_ev h.2.1, SI.fr_ev h.2.2, updL_row h.1]
theorem ropeZ_fr : ∀ {cs : List Ch}, cs.all (Ch.fr K) = true → ropeZ (updL ρ K v) cs = ropeZ ρ cs
  | [], _ => rfl
  | c :: cs, h => by
    simp only [List.all_cons, Bool.and_eq_true] at h
    have ih := ropeZ_fr h.2
    simp only [ropeZ, List.flatMap_cons] at ih ⊢
    rw [Ch.fr_zs h.1, ih]
theorem ObjOk.back (hp : φ <+: φ') {id : Nat} {o : AObj} (hf : AObj.fr K o = true) (h : ObjOk P φ ρ w id o) (h' : ObjOk P φ' (updL ρ K v) w' id o) : ObjOk P φ ρ w' id o := by
  cases o with
  | cells n c d T row =>
    obtain ⟨p, arr, fz, h1, h2⟩ := h
    obtain ⟨p', arr', fz', h1', h2'⟩ := h'
    have := pl_mono hp h1
    rw [this] at h1'; cases h1'
    refine ⟨p, arr', fz', h1, h2'.blk, h2'.size, h2'.le, h2'.fix, h2'.es, h2'.fr, fun i hi => ?_⟩
    obtain ⟨x, y, a1, a2, a3, a4⟩ := h2.cell i hi
    obtain ⟨x', y', b1, b2, b3, b4⟩ := h2'.cell i hi
    rw [a1] at b1; cases b1
    have hf : (Tr.all (AV.fr K) c && optB (AV.fr K) d) = true := hf
    simp only [Bool.and_eq_true] at hf
    have hfx : AV.fr K x = true := by
      unfold celA at a1
      split at a1
      · rename_i u hu
        cases a1
        exact Tr.all_get hf.1 hu
      · have := hf.2
        rw [a1] at this
        exact this
    have e := conc_back hp hfx a2 b2
    subst e
    exact ⟨x, y, a1, a2, b3, b4⟩
  | map es clk =>
    obtain ⟨p, xs, h1, h2, h3⟩ := h
    obtain ⟨p', xs', h1', h2', h3'⟩ := h'
    have := pl_mono hp h1
    rw [this] at h1'; cases h1'
    exact ⟨p, xs', h1, h2', h3.back hp hf h3'⟩
  | iter m since seen last =>
    obtain ⟨p, m0, h1, h2, h3, h4⟩ := h
    obtain ⟨p', m1, h1', h2', h3', h4'⟩ := h'
    have := pl_mono hp h1
    rw [this] at h1'; cases h1'
    refine ⟨p, m1, h1, h2, ?_, h4'⟩
    cases m <;> cases m0 <;> cases m1 <;> simp only [MapAt] at h3 h3' ⊢
    obtain ⟨q, q1, q2⟩ := h3
    obtain ⟨q', q1', q2'⟩ := h3'
    have := pl_mono hp q1
    rw [this] at q1'; cases q1'
    exact ⟨q, q1, q2'⟩
  | rope cs T row =>
    obtain ⟨p, arr, fz, h1, h2⟩ := h
    obtain ⟨p', arr', fz', h1', h2'⟩ := h'
    have := pl_mono hp h1
    rw [this] at h1'; cases h1'
    have hz : ropeZ (updL ρ K v) cs = ropeZ ρ cs := ropeZ_fr (show cs.all (Ch.fr K) = true from hf)
    exact ⟨p, arr', fz', h1, ⟨h2'.blk, h2'.size, by rw [← hz]; exact h2'.le, by rw [← hz]; exact h2'.fix, h2'.es, h2'.e1, h2'.fr, by rw [← hz]; exact h2'.cell⟩⟩
  | dead => exact h
theorem Gm.back {w0 : Base} {s s' : St} (hp : φ <+: φ') (hf : Tr.all (AObj.fr K) s.hp = true) (hle : Tr.leB AObj.beq s.hp s'.hp = true) (h : Gm P ρ w0 φ s w) (h' : Gm P (updL ρ K v) w0 φ' s' w') : Gm P ρ w0 φ s w' := by
  have hg : ∀ {id o}, s.hp.get id = some o → s'.hp.get id = some o := fun {id o} ho => Tr.leB_get (fun _ _ => AObj.beq_eq) hle ho
  refine ⟨⟨fun id o ho => (h.hp.obj id o ho).back hp (Tr.all_get hf ho) (h'.hp.obj id o (hg ho)), fun i j o o' p q hi hj l l' hpi hqj he => h'.hp.sep i j o o' p q (hg hi) (hg hj) l l' (pl_mono hp hpi) (pl_mono hp hqj) he⟩, h.len, h.ids, fun id p hpi => h'.lo id p (pl_mono hp hpi), h'.kp, fun x hx => ?_, h.fo⟩
  obtain ⟨a1, a2, a3⟩ := h'.fr x hx
  exact ⟨a1, a2, fun id p hpi => a3 id p (pl_mono hp hpi)⟩
theorem FoOk.upd {w : World} (hK : K < 32) (h : FoOk ρ w) : FoOk (updL ρ K v) w := by
  intro a h1 h2 h3
  rw [updL_ne (show fMark a ≠ K by unfold fMark; omega)] at h3
  obtain ⟨h4, h5, h6⟩ := h a h1 h2 h3
  rw [updL_ne (v := v) (show a ≠ K by omega), updL_ne (v := v) (show fCap a ≠ K by unfold fCap; omega), updL_ne (v := v) (show fBlk a ≠ K by unfold fBlk; omega), updL_ne (v := v) (show fOff a ≠ K by unfold fOff; omega)]
  refine ⟨h4, h5, fun i hi => ?_⟩
  rw [updL_row hK]
  exact h6 i hi
theorem Gm.fresh {w0 : Base} {s s1 : St} (hK : K < 32) (hf : Tr.all (AObj.fr K) s.hp = true) (h : Gm P ρ w0 φ s w) (h1 : s1.hp = s.hp) (h2 : s1.nx = s.nx) : Gm P (updL ρ K v) w0 φ s1 w := by
  refine ⟨⟨fun id o ho => ?_, fun i j o o' p q hi hj => by rw [h1] at hi hj; exact h.hp.sep i j o o' p q hi hj⟩, by rw [h2]; exact h.len, fun id o ho => by rw [h1] at ho; rw [h2]; exact h.ids id o ho, h.lo, h.kp, h.fr, h.fo.upd hK⟩
  rw [h1] at ho
  have hfo := Tr.all_get hf ho
  have hob := h.hp.obj id o ho
  cases o with
  | cells n c d T row =>
    obtain ⟨p, arr, fz, q1, q2⟩ := hob
    refine ⟨p, arr, fz, q1, q2.blk, q2.size, q2.le, q2.fix, q2.es, q2.fr, fun i hi => ?_⟩
    obtain ⟨x, y, a1, a2, a3, a4⟩ := q2.cell i hi
    have hf : (Tr.all (AV.fr K) c && optB (AV.fr K) d) = true := hfo
    simp only [Bool.and_eq_true] at hf
    have hfx : AV.fr K x = true := by
      have a1 := a1
      unfold celA at a1
      split at a1
      · rename_i u hu
        cases a1
        exact Tr.all_get hf.1 hu
      · have := hf.2
        rw [a1] at this
        exact this
    exact ⟨x, y, a1, by rw [AV.fr_conc x hfx]; exact a2, a3, a4⟩
  | map es clk =>
    obtain ⟨p, xs, q1, q2, q3⟩ := hob
    refine ⟨p, xs, q1, q2, ?_⟩
    have hf : entFr K es = true := hfo
    clear q2 hfo ho
    generalize xs.toList = ms at q3
    induction q3 with
    | nil => exact .nil
    | @cons k v' b l x y m hk hv _ ih =>
      have hf : ((AV.fr K k && AV.fr K v') && l.all (fun e => AV.fr K e.1 && AV.fr K e.2.1)) = true := hf
      simp only [Bool.and_eq_true] at hf
      exact .cons (by rw [AV.fr_conc _ hf.1.1]; exact hk) (by rw [AV.fr_conc _ hf.1.2]; exact hv) (ih hf.2)
  | iter m since seen last => exact hob
  | rope cs T row =>
    obtain ⟨p, arr, fz, q1, q2⟩ := hob
    have hz : ropeZ (updL ρ K v) cs = ropeZ ρ cs := ropeZ_fr (show cs.all (Ch.fr K) = true from hfo)
    exact ⟨p, arr, fz, q1, ⟨q2.blk, q2.size, by rw [hz]; exact q2.le, by rw [hz]; exact q2.fix, q2.es, q2.e1, q2.fr, by rw [hz]; exact q2.cell⟩⟩
  | dead => exact hob
end

/-- what is to be known of such rounds -/
def AccOk (a : Acc) : Prop := ∀ ρ : Nat → Int, RgOk ρ a.rg → a.e0.ev ρ ≤ a.hi.ev ρ ∧ -9223372036854775808 ≤ a.e0.ev ρ ∧ a.hi.ev ρ ≤ 9223372036854775807 ∧ ∀ v : Int, a.e0.ev ρ ≤ v → v < a.hi.ev ρ → RgOk (updL ρ a.K v) a.rg ∧ ∀ x ∈ a.pcs, x.1.ev (updL ρ a.K v) = x.2
section
variable {P : Program} {ρ : Nat → Int} {pl : Plans}
theorem accG_sound {ih : EvT} (hih : ∀ ρ, CodeSound P ρ pl ih) {f sz : Nat} {c : Code} (hok : codeOk pl f c = true) {a : Acc} (ha : AccOk a) {s : St} {t : Ts} {r : St → Ts → R} {D : Dn} (ht : (accO a (t.get a.slot) && Option.isNone (t.get sz)) = true) {rest : R} (hD : accG ih f sz c a s (keepTs t a.keep) r rest ∈ D) : rest ∈ D ∨
    ∃ t1, r s t1 ∈ D ∧ ∀ {w0 : Base} {φ : List Pl} {ac : Act} {w : World} {e : Ex} {s' : St} {t' : Ts}, Holds ρ s.pc → GA φ ρ t sz ac → Gm P ρ w0 φ s w →
      (∀ {ac' : Act} {w' : World}, GA φ ρ t1 sz ac' → Gm P ρ w0 φ s w' → (Code.loop c).wp P (Post P ρ w0 φ sz e s' t') ac' w') → (Code.loop c).wp P (Post P ρ w0 φ sz e s' t') ac w := by
  unfold accG at hD
  obtain ⟨hb, h1⟩ := brec_inv hD
  rcases brec_cases h1 with ⟨hd, h2⟩ | ⟨hd, h2⟩
  · refine .inr ⟨_, h2, fun {w0 φ ac w e s' t'} hρ hg hm hnext => ?_⟩
    unfold accB at hb
    simp only [Bool.and_eq_true, natBlt, decide_eq_true_eq, Option.isNone_iff_eq_none] at hb
    obtain ⟨hK32, hslot, hdz, hslotfree, hrg, hfh, hft, hfp, hfe, hfhi⟩ := hb
    rw [Bool.and_eq_true, Option.isNone_iff_eq_none] at ht
    obtain ⟨ht, htz⟩ := ht
    have hrg := rgB_eq _ _ hrg
    obtain ⟨u, S, hdone⟩ := isDone_inv hd
    obtain ⟨k0, hk0⟩ : ∃ e, t.get a.slot = some (.int .i64 e) ∧ e = a.e0 := by
      unfold accO at ht
      split at ht
      · rename_i k e heq
        simp only [Bool.and_eq_true] at ht
        obtain rfl := kindEq_of ht.1
        exact ⟨e, heq, SI.beq_eq _ _ ht.2⟩
      · cases ht
    obtain ⟨hk0, rfl⟩ := hk0
    have hρr : RgOk ρ a.rg := by rw [← hrg]; exact hρ.rg
    obtain ⟨hle, hmin, hmax, hin⟩ := ha ρ hρr
    have ga : ∀ {x : Int} {a0 : Act}, GA φ ρ (keepTs t a.keep) sz a0 → a0.tmps.getD a.slot undef = .int .i64 x → ∀ E : SI, E.ev ρ = x → GA φ ρ (Ts.put a.slot (.int .i64 E) (keepTs t a.keep)) sz a0 := by
      intro x a0 h hx E hE
      refine ⟨h.size, fun d y hy => ?_, ?_⟩
      · have hy : (Tr.set (keepTs t a.keep) a.slot (.int .i64 E)).get d = some y := hy
        rw [Tr.get_set] at hy
        split at hy
        · rename_i hds
          cases hy
          rw [hds, hx]
          simp only [conc, hE]
        · exact h.tm d y hy
      · have : (Ts.put a.slot (.int .i64 E) (keepTs t a.keep)).get sz = (keepTs t a.keep).get sz := by
          show (Tr.set (keepTs t a.keep) a.slot (.int .i64 E)).get sz = _
          rw [Tr.get_set, if_neg (by omega)]
          rfl
        rw [this]
        exact h.df
    have main : ∀ (n : Nat) (x : Int) {a0 : Act} {w1 : World}, x + n = a.hi.ev ρ → a.e0.ev ρ ≤ x → GA φ ρ (keepTs t a.keep) sz a0 → a0.tmps.getD a.slot undef = .int .i64 x → Gm P ρ w0 φ s w1 → (Code.loop c).wp P (Post P ρ w0 φ sz e s' t') a0 w1 := by
      intro n
      induction n with
      | zero => intro x a0 w1 hx _ hg0 hsl hm1; exact hnext (ga hg0 hsl a.hi (by omega)) hm1
      | succ n ihn =>
        intro x a0 w1 hx hlo hg0 hsl hm1
        obtain ⟨hrx, hpx⟩ := hin x hlo (by omega)
        have hD' : accT ih f sz c a s (keepTs t a.keep) ∈ Dn.mk (updL ρ a.K x) u S := by rw [hdone]; exact ⟨rfl, rfl⟩
        unfold accT at hD'
        obtain ⟨e1, s1, t1, h3, x1, h4⟩ := hih (updL ρ a.K x) hok hD'
        unfold accEnd at h3
        split at h3
        · obtain ⟨hc, _⟩ := brec_inv h3
          simp only [Bool.and_eq_true, Option.isNone_iff_eq_none] at hc
          obtain ⟨hhp, hts, hnz, hpc⟩ := hc
          have hpc := pcB_eq _ _ hpc
          have out : ∀ (a : Act) (w : World), ¬ Post P ρ w0 φ sz e s' t' .outgrown a w := fun a w hp => by cases e <;> cases hp.1
          have go : ∀ (l : Nat) (a : Act) (w : World), ¬ Post P ρ w0 φ sz e s' t' (.goto l) a w := fun l a w hp => by cases e <;> cases hp.1
          refine wp_loop_unroll out go (Code.wp_mono (fun e' a' w' hp => ?_) (h4 (w0 := w0) (φ := φ) (a := a0) (w := w1) ⟨?_, ?_⟩ ⟨hg0.size, fun d y hy => ?_, ?_⟩ (hm1.fresh hK32 hfh rfl rfl)))
          · obtain ⟨rfl, φ', p1, g1, m1⟩ := hp
            have hm2 : Gm P ρ w0 φ s w' := Gm.back p1 hfh hhp hm1 m1
            have hget : ∀ {d y}, (Ts.put a.slot (.int .i64 (.bin .add .i64 (.var a.K) (.lit (.ofNat (nat_lit 1))))) (keepTs t a.keep)).get d = some y → t1.get d = some y := fun {d y} hy => Tr.leB_get AV.beq_eq hts hy
            have hsl' : a'.tmps.getD a.slot undef = .int .i64 (x + 1) := by
              have h5 : (Ts.put a.slot (.int .i64 (.bin .add .i64 (.var a.K) (.lit (.ofNat (nat_lit 1))))) (keepTs t a.keep)).get a.slot = some (.int .i64 (.bin .add .i64 (.var a.K) (.lit (.ofNat (nat_lit 1))))) := by
                show (Tr.set _ _ _).get a.slot = _
                rw [Tr.get_set, if_pos rfl]
              have h6 := g1.tm _ _ (hget h5)
              simp only [conc, SI.ev, Option.some.injEq] at h6
              rw [← h6]
              congr 1
              show IntKind.i64.wrap (updL ρ a.K x a.K + 1) = x + 1
              rw [show updL ρ a.K x a.K = x from if_pos rfl]
              exact wrap_in ⟨by show (-9223372036854775808 : Int) ≤ _; omega, by show _ ≤ (9223372036854775807 : Int); omega⟩
            refine ihn (x + 1) (by omega) (by omega) ⟨g1.size, fun d y hy => ?_, ?_⟩ hsl' hm2
            · by_cases hds : d = a.slot
              · subst hds
                rw [hslotfree] at hy
                cases hy
              · have h5 : (Ts.put a.slot (.int .i64 (.bin .add .i64 (.var a.K) (.lit (.ofNat (nat_lit 1))))) (keepTs t a.keep)).get d = some y := by
                  show (Tr.set _ _ _).get d = _
                  rw [Tr.get_set, if_neg hds]
                  exact hy
                have h6 := g1.tm _ _ (hget h5)
                have h7 := hg0.tm _ _ hy
                rw [h7]
                rw [conc_back p1 (Tr.all_get hft hy) h7 h6]
            · rw [hdz]
              have := g1.df
              rw [hnz] at this
              generalize a'.defers = ds at this ⊢
              cases this
              exact .none
          · intro y hy
            rw [hpc] at hy
            rcases List.mem_append.1 hy with hy | hy
            · exact hpx y hy
            · rw [SB.fr_ev (List.all_eq_true.1 hfp y hy)]
              exact hρ.l y hy
          · rw [x1.rg]
            show RgOk _ s.pc.rg
            rw [hrg]
            exact hrx
          · have hy : (Tr.set (keepTs t a.keep) a.slot (.int .i64 (.var a.K))).get d = some y := hy
            rw [Tr.get_set] at hy
            split at hy
            · rename_i hds
              cases hy
              rw [hds, hsl]
              simp only [conc, SI.ev, updL, if_pos]
            · rw [AV.fr_conc y (Tr.all_get hft hy)]
              exact hg0.tm d y hy
          · rw [show (Ts.put a.slot (.int .i64 (.var a.K)) (keepTs t a.keep)).get sz = (keepTs t a.keep).get sz by
              show (Tr.set _ _ _).get sz = _
              rw [Tr.get_set, if_neg (by omega)]; rfl, hdz]
            have := hg0.df
            rw [hdz] at this
            generalize a0.defers = ds at this ⊢
            cases this
            exact .none
        · cases h3
    have hg0 : GA φ ρ (keepTs t a.keep) sz ac := ⟨hg.size, fun d y hy => hg.tm d y (keepTs_get hy), by
      rw [hdz]
      have := hg.df
      rw [htz] at this
      exact this⟩
    have hsl : ac.tmps.getD a.slot undef = .int .i64 (a.e0.ev ρ) := by
      have := hg.tm _ _ hk0
      simp only [conc, Option.some.injEq] at this
      exact this.symm
    exact main (a.hi.ev ρ - a.e0.ev ρ).toNat (a.e0.ev ρ) (by omega) (Int.le_refl _) hg0 hsl hm
  · -- one that does not end so: it is no way
    rcases brec_cases h2 with ⟨_, h2⟩ | ⟨_, h2⟩
    · exact .inl h2
    exfalso
    generalize accT ih f sz c a s (keepTs t a.keep) = X at hd h2
    cases X with
    | done v s1 => cases hd
    | fail n => cases h2
    | dead => cases h2
    | fork q x y => cases h2
theorem accK_sound {ih : EvT} (hih : ∀ ρ, CodeSound P ρ pl ih) {f sz : Nat} {c : Code} (hok : codeOk pl f c = true) {s : St} {t : Ts} {r : St → Ts → R} {alt : R} {D : Dn} : ∀ {l : List Acc}, (∀ a ∈ l, AccOk a) → accK ih f sz c s t r alt l ∈ D → alt ∈ D ∨
    ∃ t1, r s t1 ∈ D ∧ ∀ {w0 : Base} {φ : List Pl} {ac : Act} {w : World} {e : Ex} {s' : St} {t' : Ts}, Holds ρ s.pc → GA φ ρ t sz ac → Gm P ρ w0 φ s w →
      (∀ {ac' : Act} {w' : World}, GA φ ρ t1 sz ac' → Gm P ρ w0 φ s w' → (Code.loop c).wp P (Post P ρ w0 φ sz e s' t') ac' w') → (Code.loop c).wp P (Post P ρ w0 φ sz e s' t') ac w
  | [], _, h => .inl h
  | a :: l, hl, h => by
    have h : Bool.rec (motive := fun _ => R) (accK ih f sz c s t r alt l) (Bool.rec (motive := fun _ => R) (accK ih f sz c s t r alt l) (accG ih f sz c a s (keepTs t a.keep) r (accK ih f sz c s t r alt l)) (accO a (t.get a.slot) && Option.isNone (t.get sz))) (Nat.beq a.f f) ∈ D := h
    rcases brec_cases h with ⟨_, h1⟩ | ⟨_, h1⟩
    · rcases brec_cases h1 with ⟨h2, h3⟩ | ⟨_, h3⟩
      · rcases accG_sound hih hok (hl a (by simp)) h2 h3 with h4 | h4
        · exact accK_sound hih hok (fun b hb => hl b (by simp [hb])) h4
        · exact .inr h4
      · exact accK_sound hih hok (fun b hb => hl b (by simp [hb])) h3
    · exact accK_sound hih hok (fun b hb => hl b (by simp [hb])) h1
end
end Go.Proofs.YticednpolhnneaaGreat

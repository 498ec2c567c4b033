/-
  WorldDatagrams: a whole call.
-/
import Derived.Test.YtmifojdpdbjodaaGreatWdm
import Derived.ChangeSlices
set_option linter.unusedVariables false
set_option linter.unusedSimpArgs false
namespace Go.Proofs.YtmifojdpdbjodaaGreat
open Go

def rgT (lo hi : Int) : List (Int × Int) := [(0, 0), (1, 65535), (0, 0), (lo, hi), (0, 0), (0, 0), (0, 0), (0, 0), (0, 0), (0, 0), (0, 0), (0, 0), (0, 0), (0, 0), (0, 0), (0, 0), (0, 0), (0, 0), (0, 0), (0, 0), (0, 0), (0, 0), (0, 0), (0, 0), (0, 0), (0, 0), (0, 0), (0, 0), (0, 0), (0, 0), (0, 10), (0, 0), (0, 0)]
noncomputable def allV (r : R) (acc : List (SB × Bool)) : Bool := match endsR r acc with
  | some L => L.all fun x => AV.beq x.1 (.int .i64 (.lit (.ofNat 99)))
  | none => false
theorem g_preA : allE (preR (rgT 0 20000)) (moreF false) = true := by kernel_rfl
theorem g_preB : allV (preR (rgT 20001 20971520)) (moreF false) = true := by kernel_rfl
theorem g_beg : allE (begR (rgS 0 0 0)) tenF = true := by kernel_rfl
theorem g_sz : allE (sumR (.osl 628 32 631) (.var 3) (moreF true) (rgS 0 9 0)) (moreF true) = true := by kernel_rfl
theorem g_sr : allE (sumR (.fsl 32 zeroS zeroS (.var 32)) (.bin .add .i64 (.var 3) (.var 32)) (moreF true) (rgS 0 9 1048576)) (moreF true) = true := by kernel_rfl
theorem allV_inv {ρ : Nat → Int} {r : R} {acc : List (SB × Bool)} (h : allV r acc = true) (ha : ∀ x ∈ acc, x.1.ev ρ = x.2) : ∃ S, r ∈ Dn.mk ρ (.int .i64 (.lit (.ofNat 99))) S ∧ ∀ x ∈ S.pc.l, x.1.ev ρ = x.2 := by
  unfold allV at h
  split at h
  · rename_i L hL
    obtain ⟨V, S, l, h1, h2, _, h4⟩ := endsR_inv (ρ := ρ) _ hL ha
    have := List.all_eq_true.1 h _ h2
    have hV : V = .int .i64 (.lit (.ofNat 99)) := AV.beq_eq _ _ this
    subst hV
    exact ⟨S, h1, h4⟩
  · cases h
theorem rgT_ok {ρ1 : Nat → Int} {lo hi : Int} (p1 : 1 ≤ ρ1 1 ∧ ρ1 1 ≤ 65535) (s3 : lo ≤ ρ1 3 ∧ ρ1 3 ≤ hi) (i30 : 0 ≤ ρ1 30 ∧ ρ1 30 ≤ 10) (h32 : ρ1 32 = 0) (z : ρ1 0 = 0 ∧ ρ1 2 = 0 ∧ (∀ k, 4 ≤ k → k ≤ 29 → ρ1 k = 0) ∧ ρ1 31 = 0) : RgOk ρ1 (rgT lo hi) := by
  obtain ⟨z0, z2, zk, z31⟩ := z
  unfold rgT
  refine rgOk_cons (by rw [z0]; omega) (rgOk_cons p1 (rgOk_cons (by show (0 : Int) ≤ ρ1 2 ∧ ρ1 2 ≤ 0; rw [z2]; omega) (rgOk_cons s3 ?_)))
  have e : ∀ k, 4 ≤ k → k ≤ 29 → (0 : Int) ≤ ρ1 k ∧ ρ1 k ≤ 0 := fun k h1 h2 => by rw [zk k h1 h2]; omega
  iterate 26 refine rgOk_cons (e _ (by decide) (by decide)) ?_
  exact rgOk_cons i30 (rgOk_cons (by show (0 : Int) ≤ ρ1 31 ∧ ρ1 31 ≤ 0; rw [z31]; omega) (rgOk_cons (by show (0 : Int) ≤ ρ1 32 ∧ ρ1 32 ≤ 0; rw [h32]; omega) rgOk_nil))
def QB (W : World) : Exit → Act → World → Prop := bodyPost Tryz.prog Tryz.f3 (fun e w' => e = .returned (.bool true) ∧ Kp [] W w')
noncomputable def pre7 : List Code := [lftC (rgtN 4 bodyF), lftC (rgtN 5 bodyF), lftC (rgtN 6 bodyF), lftC (rgtN 7 bodyF), lftC (rgtN 8 bodyF), lftC (rgtN 9 bodyF), lftC (rgtN 10 bodyF)]
noncomputable def r17C : Code := lftC (lftC (rgtN 11 bodyF))
noncomputable def restC : Code := seqs pre7 (.seq (.seq r17C (.block 2 (.loop loopC))) postC)
noncomputable def beg3 : List Code := [lftC bodyF, lftC (rgtN 1 bodyF), lftC (rgtN 2 bodyF)]
noncomputable def r4C : Code := lftC (lftC (rgtN 3 bodyF))
theorem body_eq2 : bodyF = seqs beg3 (.seq (.seq r4C (.block 0 (.loop loopS))) restC) := body_eq
theorem cPre7 : ∀ c ∈ pre7, codeOk plansJ 3 c = true := fun c hc => List.all_eq_true.1 (show pre7.all (codeOk plansJ 3) = true by kernel_rfl) c hc
theorem cBeg3 : ∀ c ∈ beg3, codeOk plansJ 3 c = true := fun c hc => List.all_eq_true.1 (show beg3.all (codeOk plansJ 3) = true by kernel_rfl) c hc
theorem c17 : codeOk plansJ 3 r17C = true := by kernel_rfl
theorem c4 : codeOk plansJ 3 r4C = true := by kernel_rfl
noncomputable def thenR (κ : Ex → St → Ts → R) (e : Ex) (s : St) (t : Ts) : R := Ex.rec (motive := fun _ => R) (κ .normal s t) (fun i => κ (.exit i) s t) (κ .ret s t) e
noncomputable def lastR (c : Code) (κ : Ex → St → Ts → R) (e : Ex) (s : St) (t : Ts) : R := Ex.rec (motive := fun _ => R) (ihA 3 148 c s t (thenR κ)) (fun i => κ (.exit i) s t) (κ .ret s t) e
theorem pre_split (s : St) (t : Ts) : evL ihA 3 148 preL s t iniR = evL ihA 3 148 pre7 s t (lastR r17C iniR) := rfl
theorem beg_split (s : St) (t : Ts) (κ : Ex → St → Ts → R) : evL ihA 3 148 begL s t κ = evL ihA 3 148 beg3 s t (lastR r4C κ) := rfl
theorem iniR_ok {D : Dn} {s : St} {t : Ts} (h : iniR .normal s t ∈ D) : D.V = .int .i64 (.lit (.ofNat 0)) ∧ D.S.pc.l = s.pc.l ∧ ∃ r, (letR r 1 = .var 1 ∧ letR r 30 = .lit (.ofNat 0) ∧ nilN r.rw = true) ∧ ∀ {ρ w0 φ a w}, Holds ρ s.pc → GA φ ρ t 148 a → Gm Tryz.prog ρ w0 φ s w → AtW w0.w0 patI (r.rho ρ) a w := by
  rcases matchP_inv (P := Tryz.prog) patI_ok (show matchP patI 148 s t (.fail 985) (fun r => Bool.rec (motive := fun _ => R) (.fail 986) (.done (.int .i64 (.lit (.ofNat 0))) ⟨.nil, nat_lit 0, ⟨s.pc.l, [], []⟩⟩) (SI.beq (letR r 1) (.var 1) && (SI.beq (letR r 30) (.lit (.ofNat 0)) && nilN r.rw))) ∈ D from h) with h | ⟨r, h1, h2⟩
  · cases h
  · obtain ⟨hb, h3⟩ := brec_inv h1
    obtain ⟨hV, hS⟩ : (AV.int .i64 (.lit (.ofNat 0))) = D.V ∧ (⟨.nil, nat_lit 0, ⟨s.pc.l, [], []⟩⟩ : St) = D.S := h3
    simp only [Bool.and_eq_true] at hb
    exact ⟨hV.symm, by rw [← hS], r, ⟨SI.beq_eq _ _ hb.1, SI.beq_eq _ _ hb.2.1, hb.2.2⟩, fun {ρ w0 φ a w} hρ hg hm => by
      obtain ⟨w0', φ', e1, e2, e3⟩ := h2 (l := []) hρ hg hm
      exact ⟨w0', φ', e1, e2, e3⟩⟩
set_option maxRecDepth 100000 in
/-- all lengths are known -/
theorem pre_okW {rg : List (Int × Int)} {W : World} {ρ1 : Nat → Int} {V : AV} {S : St} (h1 : preR rg ∈ Dn.mk ρ1 V S) (h4 : ∀ x ∈ S.pc.l, x.1.ev ρ1 = x.2) (hrg : RgOk ρ1 rg) {a : Act} {w : World} (hat : AtW W patS ρ1 a w)
    (hgo : V = .int .i64 (.lit (.ofNat 0)) → ∀ {r : Ren} {a w}, letR r 1 = .var 1 → letR r 30 = .lit (.ofNat 0) → nilN r.rw = true → AtW W patI (r.rho ρ1) a w → (Code.loop loopC).wp Tryz.prog (QL W) a w) :
    loopS.wp Tryz.prog (fun e a' w' => e = .exit 0 ∧ restC.wp Tryz.prog (QB W) a' w') a w := by
  obtain ⟨w0, φ, hW, hg, hm⟩ := hat
  have hm : Gm Tryz.prog ρ1 w0 φ ⟨patS.h, patS.nx, ⟨moreF false, [[]], rg⟩⟩ w := hm.pc ⟨moreF false, [[]], rg⟩
  obtain ⟨e, s1, t1, e1, x1, q1⟩ := ihA_ok ρ1 (f := 3) (sz := 148) (c := lftC loopS) cHeadS h1
  have mk : ∀ pc : PC, PcExt ⟨moreF false, [[]], rg⟩ pc → S.pc.l = pc.l → Holds ρ1 pc := fun pc hx he => ⟨by rw [← he]; exact h4, by rw [hx.rg]; exact hrg⟩
  cases e with
  | normal => cases e1
  | ret => cases e1
  | exit i =>
    obtain ⟨hb, e1⟩ := brec_inv (show Bool.rec (motive := fun _ => R) (.fail 996) (evL ihA 3 148 preL s1 t1 iniR) (Nat.beq i (nat_lit 0)) ∈ Dn.mk ρ1 V S from e1)
    rw [natBeq, decide_eq_true_eq] at hb
    subst hb
    have e1' : evL ihA 3 148 preL s1 t1 iniR ∈ Dn.mk ρ1 V S := e1
    rw [pre_split] at e1'
    obtain ⟨e, s2, t2, e2, x2, q2⟩ := evL_sound (ihA_ok ρ1) cPre7 e1'
    have fin : ∀ {pc : PC} {Q : Act → World → Prop}, Holds ρ1 pc → PcExt s1.pc pc → (∀ {a1 w1 φ1}, GA φ1 ρ1 t1 148 a1 → Gm Tryz.prog ρ1 w0 φ1 s1 w1 → restC.wp Tryz.prog (QB W) a1 w1) → loopS.wp Tryz.prog (fun e a' w' => e = .exit 0 ∧ restC.wp Tryz.prog (QB W) a' w') a w := by
      intro pc Q hρ hx hk
      rw [loopS_eq]
      refine wp_seq (Code.wp_mono (fun e a1 w1 hp1 => ?_) (q1 (hρ.of_ext hx) hg hm))
      obtain ⟨rfl, φ1, p1, g1, m1⟩ := hp1
      exact ⟨rfl, hk g1 m1⟩
    cases e with
    | exit i => cases e2
    | ret =>
      obtain ⟨f1, f2⟩ := lostR_ok (show lostR s2 t2 ∈ Dn.mk ρ1 V S from e2)
      have hρ : Holds ρ1 s2.pc := mk _ (x1.trans x2) f1
      refine fin (Q := fun _ _ => True) hρ x2 (fun {a1 w1 φ1} g1 m1 => ?_)
      show (seqs pre7 (.seq (.seq r17C (.block 2 (.loop loopC))) postC)).wp Tryz.prog _ a1 w1
      refine q2 hρ g1 m1 _ _ fun a2 w2 hp2 => ?_
      obtain ⟨_, φ2, p2, g2, m2⟩ := hp2
      have := f2 g2 m2
      rw [hW] at this
      exact this
    | normal =>
      obtain ⟨e, s3, t3, e3, x3, q3⟩ := ihA_ok ρ1 (f := 3) (sz := 148) (c := r17C) c17 (show ihA 3 148 r17C s2 t2 (thenR iniR) ∈ Dn.mk ρ1 V S from e2)
      cases e with
      | exit i => cases e3
      | ret =>
        obtain ⟨f1, f2⟩ := lostR_ok (show lostR s3 t3 ∈ Dn.mk ρ1 V S from e3)
        have hρ : Holds ρ1 s3.pc := mk _ (x1.trans (x2.trans x3)) f1
        refine fin (Q := fun _ _ => True) hρ (x2.trans x3) (fun {a1 w1 φ1} g1 m1 => ?_)
        show (seqs pre7 (.seq (.seq r17C (.block 2 (.loop loopC))) postC)).wp Tryz.prog _ a1 w1
        refine q2 (hρ.of_ext x3) g1 m1 _ _ fun a2 w2 hp2 => ?_
        obtain ⟨_, φ2, p2, g2, m2⟩ := hp2
        show (Code.seq (.seq r17C (.block 2 (.loop loopC))) postC).wp Tryz.prog _ a2 w2
        refine wp_seq (wp_seq (Code.wp_mono (fun e a3 w3 hp3 => ?_) (q3 hρ g2 m2)))
        obtain ⟨rfl, φ3, p3, g3, m3⟩ := hp3
        have := f2 g3 m3
        rw [hW] at this
        exact this
      | normal =>
        obtain ⟨f0, f1, r, ⟨k1, k30, kn⟩, f3⟩ := iniR_ok (show iniR .normal s3 t3 ∈ Dn.mk ρ1 V S from e3)
        have hρ : Holds ρ1 s3.pc := mk _ (x1.trans (x2.trans x3)) f1
        refine fin (Q := fun _ _ => True) hρ (x2.trans x3) (fun {a1 w1 φ1} g1 m1 => ?_)
        show (seqs pre7 (.seq (.seq r17C (.block 2 (.loop loopC))) postC)).wp Tryz.prog _ a1 w1
        refine q2 (hρ.of_ext x3) g1 m1 _ _ fun a2 w2 hp2 => ?_
        obtain ⟨_, φ2, p2, g2, m2⟩ := hp2
        show (Code.seq (.seq r17C (.block 2 (.loop loopC))) postC).wp Tryz.prog _ a2 w2
        refine wp_seq (wp_seq (Code.wp_mono (fun e a3 w3 hp3 => ?_) (q3 hρ g2 m2)))
        obtain ⟨rfl, φ3, p3, g3, m3⟩ := hp3
        have hat := f3 hρ g3 m3
        rw [hW] at hat
        show (Code.block 2 (.loop loopC)).wp Tryz.prog _ a3 w3
        refine wp_block (Code.wp_mono (fun e a4 w4 hp4 => ?_) (hgo f0 k1 k30 kn hat))
        rcases hp4 with ⟨rfl, h⟩ | ⟨rfl, h⟩
        · show postC.wp Tryz.prog _ a4 w4
          exact Code.wp_mono (fun e a5 w5 hp5 => by
            obtain ⟨rfl, hp5⟩ := hp5
            exact hp5) h
        · exact h
set_option maxRecDepth 100000 in
theorem sum_loop (R : AllR) {W : World} {ρ0 : Nat → Int} {q : Option Addr} {n c : Nat} {xs : Nat → Value} (G : GivenW W ρ0 q n c xs) : ∀ (m i : Nat), i + m = n → ∀ {ρ : Nat → Int} {a : Act} {w : World}, AtW W patS ρ a w → LetS ρ ρ0 xs i → (Code.loop loopS).wp Tryz.prog (fun e a' w' => e = .exit 0 ∧ restC.wp Tryz.prog (QB W) a' w') a w := by
  have hn := G.le
  have SR : SumRs := ⟨g_sz, g_sr⟩
  intro m
  induction m with
  | zero =>
    intro i him ρ a w hat hL
    obtain rfl : i = n := by omega
    have hsl := smL_le G i (by omega)
    obtain ⟨r1, r2⟩ := rRow_rows (l := lS) (v := 0) (i := i) (by omega) hL.rw
    obtain ⟨l1, l3, l30⟩ := lS_1 ρ i
    have hat1 := at_ren patS_ok (patS_c4 i 0) (patS_cT i 0) hat
    have hhi : ∀ k, 64 ≤ k → k < 600 → (rRow lS i 0).rho ρ k = ρ0 k := fun k h1 h2 => (rRow_hi ρ h1 h2).trans (hL.hi k h1 h2)
    have hzz := lS_z (ρ := ρ) (i := i)
    generalize hρ1 : (rRow lS i 0).rho ρ = ρ1 at *
    have i30 : ρ1 30 = i := by rw [l30]; exact hL.i30
    have s3 : ρ1 3 = smL xs i := by rw [l3]; exact hL.s3
    have p1 : 1 ≤ ρ1 1 ∧ ρ1 1 ≤ 65535 := by rw [l1]; exact hL.p1
    have h32 : ρ1 32 = 0 := by rw [r1.1]; exact G.top
    have hm := more_ok (b := false) G i30 (hhi 304 (by omega) (by omega)) (decide_eq_false (by omega))
    have hend : loopS.wp Tryz.prog (fun e a' w' => e = .exit 0 ∧ restC.wp Tryz.prog (QB W) a' w') a w := by
      rcases Nat.lt_or_ge 20000 (smL xs i) with hbig | hsm
      · obtain ⟨S, e1, e2⟩ := allV_inv (ρ := ρ1) g_preB hm
        exact pre_okW e1 e2 (rgT_ok p1 (by rw [s3]; omega) (by rw [i30]; omega) h32 hzz) hat1 (fun h => by cases h)
      · obtain ⟨V, S, e1, e2⟩ := allE_inv (ρ := ρ1) g_preA hm
        refine pre_okW e1 e2 (rgT_ok p1 (by rw [s3]; omega) (by rw [i30]; omega) h32 hzz) hat1 (fun _ {r a w} k1 k30 kn h => ?_)
        refine loop_okW R G hsm i 0 (by omega) (.inl ⟨rfl, _, h, ⟨?_, ?_, fun h => absurd h (by omega), fun k h1 h2 => (Ren.rho_hi ⟨h1, by omega⟩).trans (hhi k h1 h2), fun a h1 h2 => ?_⟩⟩)
        · rw [letR_ev r ρ1 (by omega), k1]; exact p1
        · rw [letR_ev r ρ1 (by omega), k30]; rfl
        · have e := r.rowEq ρ1 (a := a) ⟨by omega, h2⟩
          rw [nilN_row kn] at e
          exact e.trans (r2 a h1 h2)
    refine wp_loop_unroll (fun a w h => by cases h.1) (fun l a w h => by cases h.1) (Code.wp_mono (fun e a' w' hp => ?_) hend)
    obtain ⟨rfl, h⟩ := hp
    exact ⟨rfl, h⟩
  | succ m ih =>
    intro i him ρ a w hat hL
    refine wp_loop_unroll (fun a w h => by cases h.1) (fun l a w h => by cases h.1) (Code.wp_mono (fun e a' w' hp => ?_) (sumStep_ok SR G (by omega) hat hL))
    obtain ⟨rfl, ρ2, h1, h2⟩ := hp
    exact ih (i + 1) (by omega) h1 h2
end Go.Proofs.YtmifojdpdbjodaaGreat

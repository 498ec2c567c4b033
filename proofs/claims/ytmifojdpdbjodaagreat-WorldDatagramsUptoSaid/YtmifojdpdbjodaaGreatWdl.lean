/-
  WorldDatagrams: a round, the loops, by the runs' word.
-/
import Derived.Test.YtmifojdpdbjodaaGreatWdp
import Derived.ProofKit
set_option linter.unusedVariables false
set_option linter.unusedSimpArgs false
namespace Go.Proofs.YtmifojdpdbjodaaGreat
open Go

theorem ihA_ok (ρ : Nat → Int) : CodeSound Tryz.prog ρ plansJ ihA := ev_sound (by kernel_rfl) plansJ_ok sumsK24_ok 100000 100000 ρ
theorem callA_ok (ρ : Nat → Int) : CallSound Tryz.prog ρ callA := callF_sound plansJ_ok sumsK24_ok (ihA_ok ρ)
theorem loopC_eq : loopC = .seq (lftC loopC) (.seq (lftC (rgtC loopC)) nextC) := by kernel_rfl
theorem loopS_eq : loopS = .seq (lftC loopS) (.seq (lftC (rgtC loopS)) nextS) := by kernel_rfl
theorem postC_eq : postC = .seq (lftC postC) .ret := by kernel_rfl
theorem body_eq : bodyF = .seq (lftC bodyF) (.seq (lftC (rgtN 1 bodyF)) (.seq (lftC (rgtN 2 bodyF)) (.seq (.seq (lftC (lftC (rgtN 3 bodyF))) (.block 0 (.loop loopS))) (.seq (lftC (rgtN 4 bodyF)) (.seq (lftC (rgtN 5 bodyF)) (.seq (lftC (rgtN 6 bodyF)) (.seq (lftC (rgtN 7 bodyF)) (.seq (lftC (rgtN 8 bodyF)) (.seq (lftC (rgtN 9 bodyF)) (.seq (lftC (rgtN 10 bodyF)) (.seq (.seq (lftC (lftC (rgtN 11 bodyF))) (.block 2 (.loop loopC))) postC))))))))))) := by kernel_rfl
theorem cHead : codeOk plansJ 3 (lftC loopC) = true := by kernel_rfl
theorem cNext : codeOk plansJ 3 nextC = true := by kernel_rfl
theorem cPost : codeOk plansJ 3 (lftC postC) = true := by kernel_rfl
theorem cHeadS : codeOk plansJ 3 (lftC loopS) = true := by kernel_rfl
theorem cNextS : codeOk plansJ 3 nextS = true := by kernel_rfl
theorem cPre : ∀ c ∈ preL, codeOk plansJ 3 c = true := fun c hc => List.all_eq_true.1 (show preL.all (codeOk plansJ 3) = true by kernel_rfl) c hc
theorem cBeg : ∀ c ∈ begL, codeOk plansJ 3 c = true := fun c hc => List.all_eq_true.1 (show begL.all (codeOk plansJ 3) = true by kernel_rfl) c hc
theorem cBlk : okC plansJ (fun id => plansJ.pl 3 id) 3 (lftC (rgtC loopC)) = true := by kernel_rfl
theorem cBlkS : okC plansJ (fun id => plansJ.pl 3 id) 3 (lftC (rgtC loopS)) = true := by kernel_rfl
theorem evR_ok {ρ : Nat → Int} {u : AV} {D : Dn} {c : Code} {s : St} {t : Ts} {κ : K} (hok : okC plansJ (fun id => plansJ.pl 3 id) 3 c = true) (h : evR 30 u c s t κ ∈ D) : ∃ e s' t', κ e s' t' ∈ D ∧ PcExt s.pc s'.pc ∧ ∀ {w0 φ a w}, RdH ρ w0.w0 30 u → Holds ρ s'.pc → GA φ ρ t 148 a → Gm Tryz.prog ρ w0 φ s w → c.wp Tryz.prog (Post Tryz.prog ρ w0 φ 148 e s' t') a w :=
  evC_sound (by kernel_rfl) (callA_ok ρ) (ihA_ok ρ) hok h

/-- the state is the pattern's -/
def AtW (W : World) (p : Pat) (ρ : Nat → Int) (a : Act) (w : World) : Prop := ∃ w0 φ, w0.w0 = W ∧ GA φ ρ (p.ts 148) 148 a ∧ Gm Tryz.prog ρ w0 φ (p.st []) w
/-- the law has answered true -/
def BP (W : World) (a : Act) (w : World) : Prop := bodyPost Tryz.prog Tryz.f3 (fun e w' => e = .returned (.bool true) ∧ Kp [] W w') .ret a w
theorem allE_inv {ρ : Nat → Int} {r : R} {acc : List (SB × Bool)} (h : allE r acc = true) (ha : ∀ x ∈ acc, x.1.ev ρ = x.2) : ∃ V S, r ∈ Dn.mk ρ V S ∧ ∀ x ∈ S.pc.l, x.1.ev ρ = x.2 := by
  unfold allE at h
  cases hL : endsR r acc with
  | none => rw [hL] at h; cases h
  | some L =>
    obtain ⟨V, S, l, h1, _, _, h4⟩ := endsR_inv (ρ := ρ) _ hL ha
    exact ⟨V, S, h1, h4⟩
theorem df_noneW {φ : List Pl} {ρ : Nat → Int} {t : Ts} {sz : Nat} {a : Act} (h : GA φ ρ t sz a) (hn : t.get sz = none) : a.defers = [] := by
  have hd := h.df
  rw [hn] at hd
  generalize a.defers = ds at hd ⊢
  cases hd
  rfl
theorem lostR_ok {D : Dn} {s : St} {t : Ts} (h : lostR s t ∈ D) : D.S.pc.l = s.pc.l ∧ ∀ {ρ w0 φ a w}, GA φ ρ t 148 a → Gm Tryz.prog ρ w0 φ s w → BP w0.w0 a w := by
  obtain ⟨hb, h⟩ := brec_inv h
  obtain ⟨_, hS⟩ : (AV.int .i64 (.lit (.ofNat 99))) = D.V ∧ (⟨.nil, nat_lit 0, ⟨s.pc.l, [], []⟩⟩ : St) = D.S := h
  rw [Bool.and_eq_true] at hb
  refine ⟨by rw [← hS], fun {ρ w0 φ a w} hg hm => ?_⟩
  have h4 : t.get 4 = some (.bool (.lit true)) := by
    have := hb.1
    unfold isT at this
    split at this
    · rename_i b hb4
      rw [hb4, this]
    · cases this
  refine bodyPost_ret (results_tmp rfl _ _ _) (df_noneW hg (isN_iff.1 hb.2)) ⟨?_, hm.kp⟩
  have := hg.tm 4 _ h4
  exact congrArg _ (Option.some.inj this).symm
theorem patW_ok : ∀ j, (patW j).okB 148 = true
  | 0 => by kernel_rfl
  | j + 1 => by kernel_rfl
theorem patI_ok : patI.okB 148 = true := by kernel_rfl
theorem patS_ok : patS.okB 148 = true := by kernel_rfl
theorem matW_ok {D : Dn} {j : Nat} {s : St} {t : Ts} (h : matW j s t ∈ D) : D.S.pc.l = s.pc.l ∧ ∃ r, grwW s.pc.rg r = true ∧ ∀ {ρ w0 φ a w}, Holds ρ s.pc → GA φ ρ t 148 a → Gm Tryz.prog ρ w0 φ s w → AtW w0.w0 (patW j) (r.rho ρ) a w := by
  rcases matchP_inv (P := Tryz.prog) (patW_ok j) h with h | ⟨r, h1, h2⟩
  · cases h
  · obtain ⟨hb, h3⟩ := brec_inv h1
    obtain ⟨_, hS⟩ : (AV.int .i64 (.lit (.ofNat j))) = D.V ∧ (⟨.nil, nat_lit 0, ⟨s.pc.l, [], []⟩⟩ : St) = D.S := h3
    exact ⟨by rw [← hS], r, hb, fun {ρ w0 φ a w} hρ hg hm => by
      obtain ⟨w0', φ', e1, e2, e3⟩ := h2 (l := []) hρ hg hm
      exact ⟨w0', φ', e1, e2, e3⟩⟩
theorem endW_ok {D : Dn} : ∀ {j : Nat} {s : St} {t : Ts}, endW j s t ∈ D → D.S.pc.l = s.pc.l ∧ ∃ r, grwW s.pc.rg r = true ∧ ∀ {ρ w0 φ a w}, Holds ρ s.pc → GA φ ρ t 148 a → Gm Tryz.prog ρ w0 φ s w → AtW w0.w0 (patW j) (r.rho ρ) a w
  | 0, s, t, h => by
    unfold endW at h
    obtain ⟨s1, h1, p1, g1⟩ := lessP_inv h
    obtain ⟨s2, h2, p2, g2⟩ := lessP_inv h1
    obtain ⟨e1, r, e2, e3⟩ := matW_ok h2
    rw [p2, p1] at e1 e2
    exact ⟨e1, r, e2, fun {ρ w0 φ a w} hρ hg hm => e3 (by rw [p2, p1]; exact hρ) hg (g2 (g1 hm))⟩
  | j + 1, s, t, h => by
    unfold endW at h
    obtain ⟨s1, h1, p1, g1⟩ := lessP_inv h
    obtain ⟨s2, h2, p2, g2⟩ := lessP_inv h1
    obtain ⟨s3, h3, p3, g3⟩ := lessP_inv h2
    obtain ⟨e1, r, e2, e3⟩ := matW_ok h3
    rw [p3, p2, p1] at e1 e2
    exact ⟨e1, r, e2, fun {ρ w0 φ a w} hρ hg hm => e3 (by rw [p3, p2, p1]; exact hρ) hg (g3 (g2 (g1 hm)))⟩
set_option maxRecDepth 100000 in
/-- A ROUND. -/
theorem round_ok {p : Pat} {j' : Nat} {u : AV} {pcs : List (SB × Bool)} {rg : List (Int × Int)} (hr : allE (bodyR p j' u pcs rg) pcs = true) {W : World} {ρ : Nat → Int} {a : Act} {w : World} (hat : AtW W p ρ a w) (hrg : RgOk ρ rg) (hpc : ∀ x ∈ pcs, x.1.ev ρ = x.2) (hrd : RdH ρ W 30 u) :
    loopC.wp Tryz.prog (fun e a' w' => (e = .normal ∧ ∃ r, grwW rg r = true ∧ AtW W (patW j') (r.rho ρ) a' w') ∨ (e = .ret ∧ BP W a' w')) a w := by
  obtain ⟨V, S, h1, h4⟩ := allE_inv (ρ := ρ) hr hpc
  obtain ⟨w0, φ, hW, hg, hm⟩ := hat
  have hm : Gm Tryz.prog ρ w0 φ ⟨p.h, p.nx, ⟨pcs, [[]], rg⟩⟩ w := hm.pc ⟨pcs, [[]], rg⟩
  obtain ⟨e, s1, t1, e1, x1, q1⟩ := ihA_ok ρ (f := 3) (sz := 148) (c := lftC loopC) cHead h1
  have mk : ∀ pc : PC, PcExt ⟨pcs, [[]], rg⟩ pc → S.pc.l = pc.l → Holds ρ pc := fun pc hx he => ⟨by rw [← he]; exact h4, by rw [hx.rg]; exact hrg⟩
  cases e with
  | exit i => cases e1
  | ret => cases e1
  | normal =>
    obtain ⟨e, s2, t2, e2, x2, q2⟩ := evR_ok (ρ := ρ) cBlk (show evR 30 u (lftC (rgtC loopC)) s1 t1 (endR j') ∈ Dn.mk ρ V S from e1)
    rw [loopC_eq]
    cases e with
    | exit i => cases e2
    | ret =>
      obtain ⟨f1, f2⟩ := lostR_ok (show lostR s2 t2 ∈ Dn.mk ρ V S from e2)
      have hρ : Holds ρ s2.pc := mk _ (x1.trans x2) f1
      refine wp_seq (Code.wp_mono (fun e a1 w1 hp1 => ?_) (q1 (hρ.of_ext x2) hg hm))
      obtain ⟨rfl, φ1, p1, g1, m1⟩ := hp1
      show (Code.seq (lftC (rgtC loopC)) nextC).wp Tryz.prog _ a1 w1
      refine wp_seq (Code.wp_mono (fun e a2 w2 hp2 => ?_) (q2 (by rw [hW]; exact hrd) hρ g1 m1))
      obtain ⟨rfl, φ2, p2, g2, m2⟩ := hp2
      refine .inr ⟨rfl, ?_⟩
      rw [← hW]
      exact f2 g2 m2
    | normal =>
      obtain ⟨e, s3, t3, e3, x3, q3⟩ := ihA_ok ρ (f := 3) (sz := 148) (c := nextC) cNext (show ihA 3 148 nextC s2 t2 (endN j') ∈ Dn.mk ρ V S from e2)
      cases e with
      | exit i => cases e3
      | ret => cases e3
      | normal =>
        obtain ⟨f1, r, f2, f3⟩ := endW_ok (show endW j' s3 t3 ∈ Dn.mk ρ V S from e3)
        have hρ : Holds ρ s3.pc := mk _ (x1.trans (x2.trans x3)) f1
        have hrg3 : s3.pc.rg = rg := (x1.trans (x2.trans x3)).rg
        rw [hrg3] at f2
        refine wp_seq (Code.wp_mono (fun e a1 w1 hp1 => ?_) (q1 (hρ.of_ext (x2.trans x3)) hg hm))
        obtain ⟨rfl, φ1, p1, g1, m1⟩ := hp1
        show (Code.seq (lftC (rgtC loopC)) nextC).wp Tryz.prog _ a1 w1
        refine wp_seq (Code.wp_mono (fun e a2 w2 hp2 => ?_) (q2 (by rw [hW]; exact hrd) (hρ.of_ext x3) g1 m1))
        obtain ⟨rfl, φ2, p2, g2, m2⟩ := hp2
        show nextC.wp Tryz.prog _ a2 w2
        refine Code.wp_mono (fun e a3 w3 hp3 => ?_) (q3 hρ g2 m2)
        obtain ⟨rfl, φ3, p3, g3, m3⟩ := hp3
        refine .inl ⟨rfl, r, f2, ?_⟩
        rw [← hW]
        exact f3 hρ g3 m3
set_option maxRecDepth 100000 in
/-- no datagram is left -/
theorem exit_ok {p : Pat} {rg : List (Int × Int)} (hr : allE (exitR p (moreF false) rg) (moreF false) = true) {W : World} {ρ : Nat → Int} {a : Act} {w : World} (hat : AtW W p ρ a w) (hrg : RgOk ρ rg) (hpc : ∀ x ∈ moreF false, x.1.ev ρ = x.2) :
    loopC.wp Tryz.prog (fun e a' w' => e = .exit 2 ∧ postC.wp Tryz.prog (fun e a w => e = .ret ∧ BP W a w) a' w') a w := by
  obtain ⟨V, S, h1, h4⟩ := allE_inv (ρ := ρ) hr hpc
  obtain ⟨w0, φ, hW, hg, hm⟩ := hat
  have hm : Gm Tryz.prog ρ w0 φ ⟨p.h, p.nx, ⟨moreF false, [[]], rg⟩⟩ w := hm.pc ⟨moreF false, [[]], rg⟩
  obtain ⟨e, s1, t1, e1, x1, q1⟩ := ihA_ok ρ (f := 3) (sz := 148) (c := lftC loopC) cHead h1
  cases e with
  | normal => cases e1
  | ret => cases e1
  | exit i =>
    obtain ⟨hb, e1⟩ := brec_inv (show Bool.rec (motive := fun _ => R) (.fail 983) (ihA 3 148 (lftC postC) s1 t1 finR) (Nat.beq i (nat_lit 2)) ∈ Dn.mk ρ V S from e1)
    rw [natBeq, decide_eq_true_eq] at hb
    subst hb
    obtain ⟨e, s2, t2, e2, x2, q2⟩ := ihA_ok ρ (f := 3) (sz := 148) (c := lftC postC) cPost e1
    cases e with
    | exit i => cases e2
    | ret => cases e2
    | normal =>
      obtain ⟨f1, f2⟩ := lostR_ok (show lostR s2 t2 ∈ Dn.mk ρ V S from e2)
      have hρ : Holds ρ s2.pc := ⟨by rw [← f1]; exact h4, by rw [x2.rg, x1.rg]; exact hrg⟩
      rw [loopC_eq]
      refine wp_seq (Code.wp_mono (fun e a1 w1 hp1 => ?_) (q1 (hρ.of_ext x2) hg hm))
      obtain ⟨rfl, φ1, p1, g1, m1⟩ := hp1
      refine ⟨rfl, ?_⟩
      rw [postC_eq]
      refine wp_seq (Code.wp_mono (fun e a2 w2 hp2 => ?_) (q2 hρ g1 m1))
      obtain ⟨rfl, φ2, p2, g2, m2⟩ := hp2
      show Code.ret.wp Tryz.prog _ a2 w2
      refine wp_ret ⟨rfl, ?_⟩
      rw [← hW]
      exact f2 g2 m2

/-! other names -/
theorem at_ren {p : Pat} {r : Ren} (hok : p.okB 148 = true) (c4 : chkH [] r p.h (Tr.toL p.h (nat_lit 0) (nat_lit 1) []) .nil = true) (cT : chkTm [] r (p.ts 148) p.tm = true) {W : World} {ρ : Nat → Int} {a : Act} {w : World} (hat : AtW W p ρ a w) : AtW W p (r.rho ρ) a w := by
  obtain ⟨w0, φ, hW, hg, hm⟩ := hat
  obtain ⟨p1, p2, p3⟩ := Pat.okB_h hok
  obtain ⟨w0', φ', e1, e2, e3⟩ := Gm.sub (s := ⟨p.h, p.nx, ⟨[], [[]], []⟩⟩) (r := r) (pc := ⟨[], [[]], p.rg⟩) (rgOk_nil (ρ := ρ)) (hm.pc ⟨[], [[]], []⟩) c4 p1 p3
  have none148 : (p.ts 148).get 148 = none := by
    cases hs : (p.ts 148).get 148 with
    | none => rfl
    | some v =>
      rcases tsP_get hs with ⟨x, hx, h5, _⟩ | hv
      · have := (p2 x hx).1
        omega
      · rw [show (skel 8).get 148 = none from skel_getP _] at hv
        cases hv
  refine ⟨w0', φ', e1.trans hW, ⟨hg.size, fun d v hv => ?_, ?_⟩, e3⟩
  · rcases tsP_get hv with ⟨x, hx, rfl, rfl⟩ | hv
    · obtain ⟨u, u1, u2⟩ := chkTm_inv cT x hx
      have := u2.2 _ ρ φ φ' (p2 x hx).2.1 (p2 x hx).2.2 rgOk_nil e2
      rw [← this]
      exact hg.tm _ _ u1
    · rw [show (skel 8).get d = none from skel_getP _] at hv
      cases hv
  · rw [none148, df_noneW hg none148]
    exact .none
noncomputable def siT (l : List (Nat × SI)) : Tr SI := List.rec (motive := fun _ => Tr SI) .nil (fun x _ ih => Tr.set ih x.1 x.2) l
/-- row 33 + i stands for row 32; v for the padding -/
noncomputable def rRow (l : List (Nat × SI)) (i : Nat) (v : Int) : Ren := ⟨.nil, siT ((29, .lit v) :: l), Tr.set .nil 32 (33 + i), 900, 900⟩
noncomputable def lW : List (Nat × SI) := [(1, .var 1), (2, .var 2), (3, .var 3), (4, .var 4), (5, .var 5), (6, .var 6), (7, .var 7), (8, .var 8), (9, .var 9), (30, .var 30)]
noncomputable def lI : List (Nat × SI) := [(1, .var 1), (30, .var 30)]
noncomputable def lS : List (Nat × SI) := [(1, .var 1), (3, .var 3), (30, .var 30)]
theorem rRow_row {l : List (Nat × SI)} {i : Nat} {v : Int} (hi : i < 31) {a : Nat} (ha : 32 ≤ a ∧ a < 64) : (rRow l i v).row a = if a = 32 then 33 + i else a := by
  unfold Ren.row
  have : (rRow l i v).rw.get a = if a = 32 then some (33 + i) else none := by
    show (Tr.set .nil 32 (33 + i)).get a = _
    rw [Tr.get_set]
    by_cases h : a = 32
    · rw [if_pos h, if_pos h]
    · rw [if_neg h, if_neg h]
      exact Tr.get_nil a
  rw [this]
  by_cases h : a = 32
  · rw [if_pos h, if_pos h]
    show Bool.rec (motive := fun _ => Nat) a (33 + i) (rowIn (33 + i)) = _
    rw [rowIn_iff.2 ⟨by omega, by omega⟩]
  · rw [if_neg h, if_neg h]
    show Bool.rec (motive := fun _ => Nat) a a (rowIn a) = _
    rw [rowIn_iff.2 ha]
/-- row a here is row b there -/
def RowEq (ρ ρ0 : Nat → Int) (a b : Nat) : Prop := ρ a = ρ0 b ∧ ∀ q, q < 4 → ρ (500 + 4 * a + q) = ρ0 (500 + 4 * b + q)
theorem RowEq.trans {ρ ρ1 ρ0 : Nat → Int} {a b c : Nat} (h : RowEq ρ ρ1 a b) (k : RowEq ρ1 ρ0 b c) : RowEq ρ ρ0 a c := ⟨h.1.trans k.1, fun q hq => (h.2 q hq).trans (k.2 q hq)⟩
theorem Ren.rowEq (r : Ren) (ρ : Nat → Int) {a : Nat} (ha : 32 ≤ a ∧ a < 64) : RowEq (r.rho ρ) ρ a (r.row a) := ⟨r.rho_row ha, fun q hq => r.rho_f ha hq⟩
theorem RowEq.conc {ρ ρ0 : Nat → Int} {a b : Nat} (h : RowEq ρ ρ0 a b) (φ : List Pl) : Go.Proofs.YtmifojdpdbjodaaGreat.conc φ ρ (.fsl a zeroS zeroS (.var a)) = Go.Proofs.YtmifojdpdbjodaaGreat.conc φ ρ0 (.fsl b zeroS zeroS (.var b)) := by
  have f0 : ρ (fBlk a) = ρ0 (fBlk b) := h.2 0 (by omega)
  have f1 : ρ (fOff a) = ρ0 (fOff b) := by have := h.2 1 (by omega); unfold fOff; rw [show 501 + 4 * a = 500 + 4 * a + 1 by omega, show 501 + 4 * b = 500 + 4 * b + 1 by omega]; exact this
  have f2 : ρ (fCap a) = ρ0 (fCap b) := by have := h.2 2 (by omega); unfold fCap; rw [show 502 + 4 * a = 500 + 4 * a + 2 by omega, show 502 + 4 * b = 500 + 4 * b + 2 by omega]; exact this
  have f3 : ρ (fMark a) = ρ0 (fMark b) := by have := h.2 3 (by omega); unfold fMark; rw [show 503 + 4 * a = 500 + 4 * a + 3 by omega, show 503 + 4 * b = 500 + 4 * b + 3 by omega]; exact this
  simp only [Go.Proofs.YtmifojdpdbjodaaGreat.conc, SI.ev, zeroS, h.1, f0, f1, f2, f3]
theorem nilN_row {r : Ren} (h : nilN r.rw = true) (a : Nat) : r.row a = a := by
  have : r.rw = .nil := by
    unfold nilN at h
    split at h
    · assumption
    · cases h
  unfold Ren.row
  rw [this, show (Tr.nil : Tr Nat).get a = none from Tr.get_nil a]
  show Bool.rec (motive := fun _ => Nat) a a (rowIn a) = a
  cases rowIn a <;> rfl
theorem letR_ev (r : Ren) (ρ : Nat → Int) {k : Nat} (h : k < 32) : r.rho ρ k = (letR r k).ev ρ := by
  unfold Ren.rho letR
  rw [if_pos h]
theorem grwB_ok {k B : Nat} {e : SI} (h : grwB k B e = true) {ρ : Nat → Int} (h0 : 0 ≤ ρ k ∧ ρ k ≤ 1000000) (hB : B ≤ 1000) : 0 ≤ e.ev ρ ∧ e.ev ρ ≤ ρ k + B := by
  unfold grwB at h
  split at h
  · rw [natBle, decide_eq_true_eq] at h
    show (0 : Int) ≤ Int.ofNat _ ∧ Int.ofNat _ ≤ _
    simp only [Int.ofNat_eq_natCast]
    omega
  · rw [natBeq, decide_eq_true_eq] at h
    subst h
    show 0 ≤ ρ _ ∧ ρ _ ≤ _
    omega
  · rw [Bool.and_eq_true, natBeq, natBle, decide_eq_true_eq, decide_eq_true_eq] at h
    obtain ⟨rfl, h⟩ := h
    rename_i i c
    show 0 ≤ IntKind.i64.wrap (ρ i + (c : Int)) ∧ IntKind.i64.wrap (ρ i + (c : Int)) ≤ _
    rw [wrap_i64', Int.emod_eq_of_lt (by omega) (by omega)]
    omega
  · cases h
end Go.Proofs.YtmifojdpdbjodaaGreat

/-
  HubPairs: a round, an end of a loop, by the runs' word.
-/
import Derived.Test.YtooebogidjejoaaGreatHpp
import Derived.ProofKit
set_option linter.unusedVariables false
set_option linter.unusedSimpArgs false
namespace Go.Proofs.YtooebogidjejoaaGreat
open Go

theorem ihA_ok (ρ : Nat → Int) : CodeSound Tryz.prog ρ plans ihA := ev_sound (by kernel_rfl) plans_ok sumsK18_ok 100000 100000 ρ
theorem callA_ok (ρ : Nat → Int) : CallSound Tryz.prog ρ callA := callF_sound plans_ok sumsK18_ok (ihA_ok ρ)
/-- a loop's body: its head, its block, what is behind -/
structure LoopC (c : Code) : Prop where
  eq : c = .seq (headC c) (.seq (blkC c) (nextC c))
  h : codeOk plans 3 (headC c) = true
  b : okC plans plH 3 (blkC c) = true
  n : codeOk plans 3 (nextC c) = true
theorem loopO_c : LoopC loopO := ⟨by kernel_rfl, by kernel_rfl, by kernel_rfl, by kernel_rfl⟩
theorem loopS_c : LoopC loopS := ⟨by kernel_rfl, by kernel_rfl, by kernel_rfl, by kernel_rfl⟩
theorem loopR_c : LoopC loopR := ⟨by kernel_rfl, by kernel_rfl, by kernel_rfl, by kernel_rfl⟩
noncomputable def rest8 : Code := rgtN 8 bodyF
noncomputable def rest10 : Code := rgtN 10 bodyF
theorem body_eq : bodyF = seqs begP (.seq (.seq r9C (.block 0 (.loop loopO))) rest8) := by kernel_rfl
theorem rest8_eq : rest8 = .seq m18C (.seq (.seq r20C (.block 2 (.loop loopS))) rest10) := by kernel_rfl
theorem rest10_eq : rest10 = .seq (.seq r26C (.block 4 (.loop loopR))) postC := by kernel_rfl
theorem postC_eq : postC = .seq (lftC postC) (.seq (lftC (rgtC postC)) .ret) := by kernel_rfl
theorem cBegP : ∀ c ∈ begP, codeOk plans 3 c = true := fun c hc => List.all_eq_true.1 (show begP.all (codeOk plans 3) = true by kernel_rfl) c hc
theorem c9 : codeOk plans 3 r9C = true := by kernel_rfl
theorem c18 : codeOk plans 3 m18C = true := by kernel_rfl
theorem c20 : codeOk plans 3 r20C = true := by kernel_rfl
theorem c26 : codeOk plans 3 r26C = true := by kernel_rfl
theorem cP1 : codeOk plans 3 (lftC postC) = true := by kernel_rfl
theorem cP2 : codeOk plans 3 (lftC (rgtC postC)) = true := by kernel_rfl
theorem evR_ok {ρ : Nat → Int} {I : SI} {u : AV} {D : Dn} {c : Code} {s : St} {t : Ts} {κ : K} (hok : okC plans plH 3 c = true) (h : evR I u c s t κ ∈ D) : ∃ e s' t', κ e s' t' ∈ D ∧ PcExt s.pc s'.pc ∧ ∀ {w0 φ a w}, RdH ρ w0.w0 I u → Holds ρ s'.pc → GA φ ρ t 193 a → Gm Tryz.prog ρ w0 φ s w → c.wp Tryz.prog (Post Tryz.prog ρ w0 φ 193 e s' t') a w :=
  evC_sound (by kernel_rfl) (callA_ok ρ) (ihA_ok ρ) hok h

/-- the state is the pattern's -/
def AtH (W : World) (p : Pat) (ρ : Nat → Int) (a : Act) (w : World) : Prop := ∃ w0 φ, w0.w0 = W ∧ GA φ ρ (p.ts 193) 193 a ∧ Gm Tryz.prog ρ w0 φ (p.st []) w
/-- the law has answered true -/
def BP (W : World) (a : Act) (w : World) : Prop := bodyPost Tryz.prog Tryz.f3 (fun e w' => e = .returned (.bool true) ∧ Kp [] W w') .ret a w
theorem allE_inv {ρ : Nat → Int} {r : R} {acc : List (SB × Bool)} (h : allE r acc = true) (ha : ∀ x ∈ acc, x.1.ev ρ = x.2) : ∃ V S, r ∈ Dn.mk ρ V S ∧ ∀ x ∈ S.pc.l, x.1.ev ρ = x.2 := by
  unfold allE at h
  cases hL : endsR r acc with
  | none => rw [hL] at h; cases h
  | some L =>
    obtain ⟨V, S, l, h1, _, _, h4⟩ := endsR_inv (ρ := ρ) _ hL ha
    exact ⟨V, S, h1, h4⟩
theorem df_noneH {φ : List Pl} {ρ : Nat → Int} {t : Ts} {sz : Nat} {a : Act} (h : GA φ ρ t sz a) (hn : t.get sz = none) : a.defers = [] := by
  have hd := h.df
  rw [hn] at hd
  generalize a.defers = ds at hd ⊢
  cases hd
  rfl
theorem lostR_ok {D : Dn} {s : St} {t : Ts} (h : lostR s t ∈ D) : D.S.pc.l = s.pc.l ∧ ∀ {ρ w0 φ a w}, GA φ ρ t 193 a → Gm Tryz.prog ρ w0 φ s w → BP w0.w0 a w := by
  obtain ⟨hb, h⟩ := brec_inv h
  obtain ⟨_, hS⟩ : (AV.int .i64 (.lit (.ofNat 0))) = D.V ∧ (⟨.nil, nat_lit 0, ⟨s.pc.l, [], []⟩⟩ : St) = D.S := h
  rw [Bool.and_eq_true] at hb
  refine ⟨by rw [← hS], fun {ρ w0 φ a w} hg hm => ?_⟩
  have h2 : t.get 2 = some (.bool (.lit true)) := by
    have := hb.1
    unfold isT at this
    split at this
    · rename_i b hb2
      rw [hb2, this]
    · cases this
  refine bodyPost_ret (results_tmp rfl _ _ _) (df_noneH hg (isN_iff.1 hb.2)) ⟨?_, hm.kp⟩
  have := hg.tm 2 _ h2
  exact congrArg _ (Option.some.inj this).symm
theorem nilQ_eq {α : Type} {t : Tr α} (h : nilQ t = true) : t = .nil := by
  unfold nilQ at h
  split at h
  · rfl
  · cases h
theorem rows_mem : ∀ a : Nat, 32 ≤ a → a < 64 → a ∈ rowsI := by
  intro a h1 h2
  unfold rowsI
  simp only [List.mem_cons, List.not_mem_nil, or_false]
  omega
/-- the same letters -/
theorem rho_idn {r : Ren} (h : idnR r = true) {ρ : Nat → Int} (z : ∀ k, k < 32 → ρ k = 0) : r.rho ρ = ρ := by
  unfold idnR at h
  rw [Bool.and_eq_true] at h
  have hs := nilQ_eq h.1
  have hr : ∀ a, 32 ≤ a → a < 64 → r.row a = a := fun a h1 h2 => by
    have := List.all_eq_true.1 h.2 a (rows_mem a h1 h2)
    rw [natBeq, decide_eq_true_eq] at this
    exact this
  funext k
  unfold Ren.rho
  by_cases hk : k < 32
  · rw [if_pos hk, hs, show (Tr.nil : Tr SI).get k = none from Tr.get_nil k, z k hk]
    rfl
  · rw [if_neg hk]
    refine congrArg ρ ?_
    unfold Ren.ix
    rw [if_neg hk]
    by_cases h1 : k < 64
    · rw [if_pos h1]; exact hr k (by omega) h1
    · rw [if_neg h1]
      by_cases h2 : 628 ≤ k ∧ k < 756
      · rw [if_pos h2, hr ((k - 500) / 4) (by omega) (by omega)]; omega
      · rw [if_neg h2]
        by_cases h3 : 1000 ≤ k ∧ 32 ≤ (k - 1000) % 64
        · rw [if_pos h3, hr ((k - 1000) % 64) h3.2 (by omega)]; omega
        · rw [if_neg h3]
theorem matE_ok {D : Dn} {p : Pat} (hok : p.okB 193 = true) {s : St} {t : Ts} (h : matE p s t ∈ D) : D.S.pc.l = s.pc.l ∧ ∀ {ρ w0 φ a w}, (∀ k, k < 32 → ρ k = 0) → Holds ρ s.pc → GA φ ρ t 193 a → Gm Tryz.prog ρ w0 φ s w → AtH w0.w0 p ρ a w := by
  rcases matchP_inv (P := Tryz.prog) hok h with h | ⟨r, h1, h2⟩
  · cases h
  · obtain ⟨hb, h3⟩ := brec_inv h1
    obtain ⟨_, hS⟩ : (AV.int .i64 (.lit (.ofNat 0))) = D.V ∧ (⟨.nil, nat_lit 0, ⟨s.pc.l, [], []⟩⟩ : St) = D.S := h3
    refine ⟨by rw [← hS], fun {ρ w0 φ a w} z hρ hg hm => ?_⟩
    obtain ⟨w0', φ', e1, e2, e3⟩ := h2 (l := []) hρ hg hm
    rw [rho_idn hb z] at e2 e3
    exact ⟨w0', φ', e1, e2, e3⟩
set_option maxRecDepth 100000 in
/-- A ROUND. -/
theorem round_ok {c : Code} (L : LoopC c) {p p' : Pat} {I : SI} {u : AV} {pcs : List (SB × Bool)} {rg : List (Int × Int)} (hok : p'.okB 193 = true) (hr : allE (bodyR c p p' I u pcs rg) pcs = true) {W : World} {ρ : Nat → Int} (z : ∀ k, k < 32 → ρ k = 0) {a : Act} {w : World} (hat : AtH W p ρ a w) (hrg : RgOk ρ rg) (hpc : ∀ x ∈ pcs, x.1.ev ρ = x.2) (hrd : RdH ρ W I u) :
    c.wp Tryz.prog (fun e a' w' => (e = .normal ∧ AtH W p' ρ a' w') ∨ (e = .ret ∧ BP W a' w')) a w := by
  obtain ⟨V, S, h1, h4⟩ := allE_inv (ρ := ρ) hr hpc
  obtain ⟨w0, φ, hW, hg, hm⟩ := hat
  have hm : Gm Tryz.prog ρ w0 φ ⟨p.h, p.nx, ⟨pcs, [[]], rg⟩⟩ w := hm.pc ⟨pcs, [[]], rg⟩
  obtain ⟨e, s1, t1, e1, x1, q1⟩ := ihA_ok ρ (f := 3) (sz := 193) (c := headC c) L.h h1
  have mk : ∀ pc : PC, PcExt ⟨pcs, [[]], rg⟩ pc → S.pc.l = pc.l → Holds ρ pc := fun pc hx he => ⟨by rw [← he]; exact h4, by rw [hx.rg]; exact hrg⟩
  cases e with
  | exit i => cases e1
  | ret => cases e1
  | normal =>
    obtain ⟨e, s2, t2, e2, x2, q2⟩ := evR_ok (ρ := ρ) L.b (show evR I u (blkC c) s1 t1 (onNR fun s t => ihA 3 193 (nextC c) s t (onN fun s t => matE p' s t)) ∈ Dn.mk ρ V S from e1)
    rw [L.eq]
    cases e with
    | exit i => cases e2
    | ret =>
      obtain ⟨f1, f2⟩ := lostR_ok (show lostR s2 t2 ∈ Dn.mk ρ V S from e2)
      have hρ : Holds ρ s2.pc := mk _ (x1.trans x2) f1
      refine wp_seq (Code.wp_mono (fun e a1 w1 hp1 => ?_) (q1 (hρ.of_ext x2) hg hm))
      obtain ⟨rfl, φ1, p1, g1, m1⟩ := hp1
      show (Code.seq (blkC c) (nextC c)).wp Tryz.prog _ a1 w1
      refine wp_seq (Code.wp_mono (fun e a2 w2 hp2 => ?_) (q2 (by rw [hW]; exact hrd) hρ g1 m1))
      obtain ⟨rfl, φ2, p2, g2, m2⟩ := hp2
      refine .inr ⟨rfl, ?_⟩
      rw [← hW]
      exact f2 g2 m2
    | normal =>
      obtain ⟨e, s3, t3, e3, x3, q3⟩ := ihA_ok ρ (f := 3) (sz := 193) (c := nextC c) L.n (show ihA 3 193 (nextC c) s2 t2 (onN fun s t => matE p' s t) ∈ Dn.mk ρ V S from e2)
      cases e with
      | exit i => cases e3
      | ret => cases e3
      | normal =>
        obtain ⟨f1, f3⟩ := matE_ok hok (show matE p' s3 t3 ∈ Dn.mk ρ V S from e3)
        have hρ : Holds ρ s3.pc := mk _ (x1.trans (x2.trans x3)) f1
        refine wp_seq (Code.wp_mono (fun e a1 w1 hp1 => ?_) (q1 (hρ.of_ext (x2.trans x3)) hg hm))
        obtain ⟨rfl, φ1, p1, g1, m1⟩ := hp1
        show (Code.seq (blkC c) (nextC c)).wp Tryz.prog _ a1 w1
        refine wp_seq (Code.wp_mono (fun e a2 w2 hp2 => ?_) (q2 (by rw [hW]; exact hrd) (hρ.of_ext x3) g1 m1))
        obtain ⟨rfl, φ2, p2, g2, m2⟩ := hp2
        show (nextC c).wp Tryz.prog _ a2 w2
        refine Code.wp_mono (fun e a3 w3 hp3 => ?_) (q3 hρ g2 m2)
        obtain ⟨rfl, φ3, p3, g3, m3⟩ := hp3
        refine .inl ⟨rfl, ?_⟩
        rw [← hW]
        exact f3 z hρ g3 m3
set_option maxRecDepth 100000 in
/-- A ROUND in which all is told. -/
theorem roundL_ok {c : Code} (L : LoopC c) {p : Pat} {I : SI} {u : AV} {pcs : List (SB × Bool)} {rg : List (Int × Int)} (hr : allE (bodyL c p I u pcs rg) pcs = true) {W : World} {ρ : Nat → Int} {a : Act} {w : World} (hat : AtH W p ρ a w) (hrg : RgOk ρ rg) (hpc : ∀ x ∈ pcs, x.1.ev ρ = x.2) (hrd : RdH ρ W I u) :
    c.wp Tryz.prog (fun e a' w' => e = .ret ∧ BP W a' w') a w := by
  obtain ⟨V, S, h1, h4⟩ := allE_inv (ρ := ρ) hr hpc
  obtain ⟨w0, φ, hW, hg, hm⟩ := hat
  have hm : Gm Tryz.prog ρ w0 φ ⟨p.h, p.nx, ⟨pcs, [[]], rg⟩⟩ w := hm.pc ⟨pcs, [[]], rg⟩
  obtain ⟨e, s1, t1, e1, x1, q1⟩ := ihA_ok ρ (f := 3) (sz := 193) (c := headC c) L.h h1
  cases e with
  | exit i => cases e1
  | ret => cases e1
  | normal =>
    obtain ⟨e, s2, t2, e2, x2, q2⟩ := evR_ok (ρ := ρ) L.b (show evR I u (blkC c) s1 t1 onL ∈ Dn.mk ρ V S from e1)
    rw [L.eq]
    cases e with
    | exit i => cases e2
    | normal => cases e2
    | ret =>
      obtain ⟨f1, f2⟩ := lostR_ok (show lostR s2 t2 ∈ Dn.mk ρ V S from e2)
      have hρ : Holds ρ s2.pc := ⟨by rw [← f1]; exact h4, by rw [(x1.trans x2).rg]; exact hrg⟩
      refine wp_seq (Code.wp_mono (fun e a1 w1 hp1 => ?_) (q1 (hρ.of_ext x2) hg hm))
      obtain ⟨rfl, φ1, p1, g1, m1⟩ := hp1
      show (Code.seq (blkC c) (nextC c)).wp Tryz.prog _ a1 w1
      refine wp_seq (Code.wp_mono (fun e a2 w2 hp2 => ?_) (q2 (by rw [hW]; exact hrd) hρ g1 m1))
      obtain ⟨rfl, φ2, p2, g2, m2⟩ := hp2
      refine ⟨rfl, ?_⟩
      rw [← hW]
      exact f2 g2 m2
/-- nothing is asked of the memory -/
theorem pat_none {p : Pat} (hok : p.okB 193 = true) : (p.ts 193).get 193 = none := by
  obtain ⟨_, p2, _⟩ := Pat.okB_h hok
  cases hs : (p.ts 193).get 193 with
  | none => rfl
  | some v =>
    rcases tsP_get hs with ⟨x, hx, h5, _⟩ | hv
    · have := (p2 x hx).1
      omega
    · rw [show (skel 8).get 193 = none from skel_getP _] at hv
      cases hv
theorem patE_ok (i : Nat) : (patE i).okB 193 = true := by kernel_rfl
theorem at_less {W : World} {p : Pat} (hok : p.okB 193 = true) {ρ : Nat → Int} (z : ∀ k, k < 32 → ρ k = 0) {a : Act} {w : World} (hat : AtH W p ρ a w) {i : Nat} (h0 : (p.ts 193).get 0 = some outV) (h8 : (p.ts 193).get 8 = some (nI i)) : AtH W (patE i) ρ a w := by
  obtain ⟨w0, φ, hW, hg, hm⟩ := hat
  obtain ⟨w0', φ', e1, e2, e3⟩ := Gm.sub (s := ⟨p.h, p.nx, ⟨[], [[]], []⟩⟩) (r := ⟨.nil, .nil, .nil, 0, 0⟩) (h := .nil) (nx := 0) (wit := 0) (pc := ⟨[], [[]], []⟩) (rgOk_nil (ρ := ρ)) (hm.pc ⟨[], [[]], []⟩) rfl (fun {i o} h => by rw [show (Tr.nil : Tr AObj).get i = none from Tr.get_nil i] at h; cases h) (.inl rfl)
  rw [rho_idn (r := ⟨.nil, .nil, .nil, 0, 0⟩) (by kernel_rfl) z] at e3
  refine ⟨w0', φ', e1.trans hW, ⟨hg.size, fun d v hv => ?_, ?_⟩, e3⟩
  · rcases tsP_get (show (tsP [(0, outV), (8, nI i)] (skel (nat_lit 8))).get d = some v from hv) with ⟨x, hx, rfl, rfl⟩ | hv
    · simp only [List.mem_cons, List.not_mem_nil, or_false] at hx
      rcases hx with rfl | rfl
      · exact hg.tm 0 _ h0
      · exact hg.tm 8 _ h8
    · rw [show (skel 8).get d = none from skel_getP _] at hv
      cases hv
  · rw [pat_none (patE_ok i), df_noneH hg (pat_none hok)]
    exact .none
end Go.Proofs.YtooebogidjejoaaGreat

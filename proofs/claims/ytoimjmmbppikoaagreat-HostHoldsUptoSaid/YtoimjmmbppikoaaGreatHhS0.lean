/-
  HostHolds: a round out of P: its ends.
-/
import Derived.Test.YtoimjmmbppikoaaGreatHhi
set_option linter.unusedVariables false
set_option linter.unusedSimpArgs false
namespace Go.Proofs.YtoimjmmbppikoaaGreat
open Go

noncomputable def es0_0 : List AV := [nI 0, vI 1, nI 0, vI 3, pI 4, pI 5, pI 6, pI 7, vI 8, pI 9, pI 10, pI 11, pI 12, nI 9, vI 3, nI 0, nI 0, nI 0, nI 0, nI 0, nI 0, nI 0, nI 0, nI 0, nI 0, nI 0, nI 0, nI 0, nI 0, nI 0, nI 0, nI 0]
noncomputable def cs0_0 : List (SB × Bool) := [(cF, true), (cB, true), (cA, true)]
noncomputable def es0_1 : List AV := [nI 0, vI 1, nI 0, vI 3, pI 4, pI 5, pI 6, pI 7, vI 8, pI 9, pI 10, pI 11, pI 12, nI 9, vI 3, nI 0, vI 11, nI 0, nI 0, nI 0, nI 0, nI 0, .int .i64 (.bin .add .i64 (.var 3) (.lit (.ofNat 10))), nI 0, nI 0, nI 0, nI 0, nI 0, nI 0, nI 0, nI 0, nI 0]
noncomputable def cs0_1 : List (SB × Bool) := [(cF, false), (cB, true), (cA, true)]
noncomputable def es0_2 : List AV := [nI 0, vI 1, nI 0, vI 3, pI 4, pI 5, vI 6, vI 7, pI 8, pI 9, pI 10, vI 11, vI 12, .int .i64 hS, vI 3, nI 0, nI 0, nI 0, nI 0, nI 0, nI 0, nI 0, nI 0, nI 0, nI 0, nI 0, nI 0, nI 0, nI 0, nI 0, nI 0, nI 0]
noncomputable def cs0_2 : List (SB × Bool) := [(cD, true), (cC, true), (cB, false), (cA, true)]
noncomputable def es0_3 : List AV := [nI 0, vI 1, nI 0, vI 3, pI 4, pI 5, pI 6, pI 7, vI 8, pI 9, pI 10, pI 11, pI 12, .int .i64 kS, vI 3, nI 0, nI 0, nI 0, nI 0, nI 0, nI 0, nI 0, nI 0, nI 0, nI 0, nI 0, nI 0, nI 0, nI 0, nI 0, nI 0, nI 0]
noncomputable def cs0_3 : List (SB × Bool) := [(cF, true), (cD, false), (cC, true), (cB, false), (cA, true)]
noncomputable def es0_4 : List AV := [nI 0, vI 1, nI 0, vI 3, pI 4, pI 5, pI 6, pI 7, vI 8, pI 9, pI 10, pI 11, pI 12, .int .i64 kS, vI 3, nI 0, vI 11, nI 0, nI 0, nI 0, nI 0, nI 0, .int .i64 (.bin .add .i64 (.var 3) (.lit (.ofNat 10))), nI 0, nI 0, nI 0, nI 0, nI 0, nI 0, nI 0, nI 0, nI 0]
noncomputable def cs0_4 : List (SB × Bool) := [(cF, false), (cD, false), (cC, true), (cB, false), (cA, true)]
noncomputable def es0_5 : List AV := [nI 0, vI 1, nI 0, vI 3, pI 4, pI 5, pI 6, pI 7, vI 8, pI 9, pI 10, pI 11, pI 12, nI 9, vI 3, nI 0, nI 0, nI 0, nI 0, nI 0, nI 0, nI 0, nI 0, nI 0, nI 0, nI 0, nI 0, nI 0, nI 0, nI 0, nI 0, nI 0]
noncomputable def cs0_5 : List (SB × Bool) := [(cF, true), (cC, false), (cB, false), (cA, true)]
noncomputable def es0_6 : List AV := [nI 0, vI 1, nI 0, vI 3, pI 4, pI 5, pI 6, pI 7, vI 8, pI 9, pI 10, pI 11, pI 12, nI 9, vI 3, nI 0, vI 11, nI 0, nI 0, nI 0, nI 0, nI 0, .int .i64 (.bin .add .i64 (.var 3) (.lit (.ofNat 10))), nI 0, nI 0, nI 0, nI 0, nI 0, nI 0, nI 0, nI 0, nI 0]
noncomputable def cs0_6 : List (SB × Bool) := [(cF, false), (cC, false), (cB, false), (cA, true)]
noncomputable def es0_7 : List AV := [nI 0, vI 1, nI 0, vI 3, pI 4, pI 5, vI 6, vI 7, pI 8, pI 9, pI 10, vI 11, vI 12, vI 13, vI 14, nI 0, nI 0, nI 0, nI 0, nI 0, nI 0, nI 0, nI 0, nI 0, nI 0, nI 0, nI 0, nI 0, nI 0, nI 0, nI 0, nI 0]
noncomputable def cs0_7 : List (SB × Bool) := [(cE, true), (cA, false)]
noncomputable def es0_8 : List AV := [nI 0, vI 1, nI 0, vI 3, pI 4, pI 5, pI 6, pI 7, vI 8, pI 9, pI 10, pI 11, pI 12, .int .i64 (.bin .add .i64 (.var 13) (.lit (.negSucc 0))), vI 14, nI 0, nI 0, nI 0, nI 0, nI 0, nI 0, nI 0, nI 0, nI 0, nI 0, nI 0, nI 0, nI 0, nI 0, nI 0, nI 0, nI 0]
noncomputable def cs0_8 : List (SB × Bool) := [(cF, true), (cE, false), (cA, false)]
noncomputable def es0_9 : List AV := [nI 0, vI 1, nI 0, vI 3, pI 4, pI 5, pI 6, pI 7, vI 8, pI 9, pI 10, pI 11, pI 12, .int .i64 (.bin .add .i64 (.var 13) (.lit (.negSucc 0))), vI 14, nI 0, vI 11, nI 0, nI 0, nI 0, nI 0, nI 0, .int .i64 (.bin .add .i64 (.var 3) (.lit (.ofNat 10))), nI 0, nI 0, nI 0, nI 0, nI 0, nI 0, nI 0, nI 0, nI 0]
noncomputable def cs0_9 : List (SB × Bool) := [(cF, false), (cE, false), (cA, false)]
noncomputable def LL0 : List (AV × List (SB × Bool)) := [(.tup (.int .i64 (.lit (.ofNat 0)) :: es0_0), cs0_0), (.tup (.int .i64 (.lit (.ofNat 1)) :: es0_1), cs0_1), (.tup (.int .i64 (.lit (.ofNat 0)) :: es0_2), cs0_2), (.tup (.int .i64 (.lit (.ofNat 0)) :: es0_3), cs0_3), (.tup (.int .i64 (.lit (.ofNat 1)) :: es0_4), cs0_4), (.tup (.int .i64 (.lit (.ofNat 0)) :: es0_5), cs0_5), (.tup (.int .i64 (.lit (.ofNat 1)) :: es0_6), cs0_6), (.tup (.int .i64 (.lit (.ofNat 0)) :: es0_7), cs0_7), (.tup (.int .i64 (.lit (.ofNat 0)) :: es0_8), cs0_8), (.tup (.int .i64 (.lit (.ofNat 1)) :: es0_9), cs0_9)]
theorem leaf0_0 (ρ : Nat → Int) (i : Nat) (hi : i < 300) (hI : Inv patP ρ i (i + 1)) (hc : ∀ c ∈ cs0_0, c.1.ev ρ = c.2) : Inv patP (newRho es0_0 ρ) (i + 1) (i + 1) := by
  obtain ⟨hr, h4, h5, h9, h10, h6, h7, h11, h812, h3, h14, h13⟩ := hI
  have hb := bnd0 hr
  have c0 := cAT hb (hc _ (mt (mt mh)))
  have c1 := cBT hb (hc _ (mt mh))
  have c2 := cFT hb (hc _ mh)
  obtain ⟨r1, r3, r4, r5, r6, r7, r8, r9, r10, r11, r12, r13, r14⟩ := hb
  have n1 : newRho es0_0 ρ 1 = ρ 1 := rfl
  have n3 : newRho es0_0 ρ 3 = ρ 3 := rfl
  have n4 : newRho es0_0 ρ 4 = ρ 4 + 1 := addI rfl rfl (by omega)
  have n5 : newRho es0_0 ρ 5 = ρ 5 + 1 := addI rfl rfl (by omega)
  have n6 : newRho es0_0 ρ 6 = ρ 6 + 1 := addI rfl rfl (by omega)
  have n7 : newRho es0_0 ρ 7 = ρ 7 + 1 := addI rfl rfl (by omega)
  have n8 : newRho es0_0 ρ 8 = ρ 8 := rfl
  have n9 : newRho es0_0 ρ 9 = ρ 9 + 1 := addI rfl rfl (by omega)
  have n10 : newRho es0_0 ρ 10 = ρ 10 + 1 := addI rfl rfl (by omega)
  have n11 : newRho es0_0 ρ 11 = ρ 11 + 1 := addI rfl rfl (by omega)
  have n12 : newRho es0_0 ρ 12 = ρ 12 + 1 := addI rfl rfl (by omega)
  have n13 : newRho es0_0 ρ 13 = 9 := rfl
  have n14 : newRho es0_0 ρ 14 = ρ 3 := rfl
  refine ⟨rgOk_mk (ai zz (ai (bd 1 65535 n1 (by omega)) (ai zz (ai (bd 1 30101 n3 (by omega)) (ai (bd 0 300 n4 (by omega)) (ai (bd 1 301 n5 (by omega)) (ai (bd 0 400 n6 (by omega)) (ai (bd 0 300 n7 (by omega)) (ai (bd 0 300 n8 (by omega)) (ai (bd 0 300 n9 (by omega)) (ai (bd 0 300 n10 (by omega)) (ai (bd 1 301 n11 (by omega)) (ai (bd 0 300 n12 (by omega)) (ai (bd 0 10 n13 (by omega)) (ai (bd 0 30101 n14 (by omega)) (ai zz (ai zz (ai zz (ai zz (ai zz (ai zz (ai zz (ai zz (ai zz (ai zz (ai zz (ai zz (ai zz (ai zz (ai zz (ai zz (ai zz trivial)))))))))))))))))))))))))))))))), ?_⟩
  rw [n4, n5, n9, n10, n6, n7, n11, n8, n12, n3, n14, n13]
  omega
theorem leaf0_1 (ρ : Nat → Int) (i : Nat) (hi : i < 300) (hI : Inv patP ρ i (i + 1)) (hc : ∀ c ∈ cs0_1, c.1.ev ρ = c.2) : Inv patS1 (newRho es0_1 ρ) (i + 1) (i + 1) := by
  obtain ⟨hr, h4, h5, h9, h10, h6, h7, h11, h812, h3, h14, h13⟩ := hI
  have hb := bnd0 hr
  have c0 := cAT hb (hc _ (mt (mt mh)))
  have c1 := cBT hb (hc _ (mt mh))
  have c2 := cFF hb (hc _ mh)
  obtain ⟨r1, r3, r4, r5, r6, r7, r8, r9, r10, r11, r12, r13, r14⟩ := hb
  have n1 : newRho es0_1 ρ 1 = ρ 1 := rfl
  have n3 : newRho es0_1 ρ 3 = ρ 3 := rfl
  have n4 : newRho es0_1 ρ 4 = ρ 4 + 1 := addI rfl rfl (by omega)
  have n5 : newRho es0_1 ρ 5 = ρ 5 + 1 := addI rfl rfl (by omega)
  have n6 : newRho es0_1 ρ 6 = ρ 6 + 1 := addI rfl rfl (by omega)
  have n7 : newRho es0_1 ρ 7 = ρ 7 + 1 := addI rfl rfl (by omega)
  have n8 : newRho es0_1 ρ 8 = ρ 8 := rfl
  have n9 : newRho es0_1 ρ 9 = ρ 9 + 1 := addI rfl rfl (by omega)
  have n10 : newRho es0_1 ρ 10 = ρ 10 + 1 := addI rfl rfl (by omega)
  have n11 : newRho es0_1 ρ 11 = ρ 11 + 1 := addI rfl rfl (by omega)
  have n12 : newRho es0_1 ρ 12 = ρ 12 + 1 := addI rfl rfl (by omega)
  have n13 : newRho es0_1 ρ 13 = 9 := rfl
  have n14 : newRho es0_1 ρ 14 = ρ 3 := rfl
  have n16 : newRho es0_1 ρ 16 = ρ 11 := rfl
  have n22 : newRho es0_1 ρ 22 = ρ 3 + 10 := addI rfl rfl (by omega)
  refine ⟨rgOk_mk (ai zz (ai (bd 1 65535 n1 (by omega)) (ai zz (ai (bd 1 30101 n3 (by omega)) (ai (bd 0 300 n4 (by omega)) (ai (bd 1 301 n5 (by omega)) (ai (bd 0 400 n6 (by omega)) (ai (bd 0 300 n7 (by omega)) (ai (bd 0 300 n8 (by omega)) (ai (bd 0 300 n9 (by omega)) (ai (bd 0 300 n10 (by omega)) (ai (bd 1 301 n11 (by omega)) (ai (bd 0 300 n12 (by omega)) (ai (bd 0 10 n13 (by omega)) (ai (bd 0 30101 n14 (by omega)) (ai zz (ai (bd 1 400 n16 (by omega)) (ai zz (ai zz (ai zz (ai zz (ai zz (ai (bd 0 40000 n22 (by omega)) (ai zz (ai zz (ai zz (ai zz (ai zz (ai zz (ai zz (ai zz (ai zz trivial)))))))))))))))))))))))))))))))), ?_⟩
  rw [n4, n5, n9, n10, n6, n7, n11, n8, n12, n3, n14, n13]
  omega
theorem leaf0_2 (ρ : Nat → Int) (i : Nat) (hi : i < 300) (hI : Inv patP ρ i (i + 1)) (hc : ∀ c ∈ cs0_2, c.1.ev ρ = c.2) : Inv patP (newRho es0_2 ρ) (i + 1) (i + 1) := by
  obtain ⟨hr, h4, h5, h9, h10, h6, h7, h11, h812, h3, h14, h13⟩ := hI
  have hb := bnd0 hr
  have c0 := cAT hb (hc _ (mt (mt (mt mh))))
  have c1 := cBF hb (hc _ (mt (mt mh)))
  have c2 := cCT hb (hc _ (mt mh))
  have c3 := cDT hb (hc _ mh)
  have n13 := (show newRho es0_2 ρ 13 = _ from hS_ev hb)
  obtain ⟨r1, r3, r4, r5, r6, r7, r8, r9, r10, r11, r12, r13, r14⟩ := hb
  have n1 : newRho es0_2 ρ 1 = ρ 1 := rfl
  have n3 : newRho es0_2 ρ 3 = ρ 3 := rfl
  have n4 : newRho es0_2 ρ 4 = ρ 4 + 1 := addI rfl rfl (by omega)
  have n5 : newRho es0_2 ρ 5 = ρ 5 + 1 := addI rfl rfl (by omega)
  have n6 : newRho es0_2 ρ 6 = ρ 6 := rfl
  have n7 : newRho es0_2 ρ 7 = ρ 7 := rfl
  have n8 : newRho es0_2 ρ 8 = ρ 8 + 1 := addI rfl rfl (by omega)
  have n9 : newRho es0_2 ρ 9 = ρ 9 + 1 := addI rfl rfl (by omega)
  have n10 : newRho es0_2 ρ 10 = ρ 10 + 1 := addI rfl rfl (by omega)
  have n11 : newRho es0_2 ρ 11 = ρ 11 := rfl
  have n12 : newRho es0_2 ρ 12 = ρ 12 := rfl
  have n14 : newRho es0_2 ρ 14 = ρ 3 := rfl
  refine ⟨rgOk_mk (ai zz (ai (bd 1 65535 n1 (by omega)) (ai zz (ai (bd 1 30101 n3 (by omega)) (ai (bd 0 300 n4 (by omega)) (ai (bd 1 301 n5 (by omega)) (ai (bd 0 400 n6 (by omega)) (ai (bd 0 300 n7 (by omega)) (ai (bd 0 300 n8 (by omega)) (ai (bd 0 300 n9 (by omega)) (ai (bd 0 300 n10 (by omega)) (ai (bd 1 301 n11 (by omega)) (ai (bd 0 300 n12 (by omega)) (ai (bd 0 10 n13 (by omega)) (ai (bd 0 30101 n14 (by omega)) (ai zz (ai zz (ai zz (ai zz (ai zz (ai zz (ai zz (ai zz (ai zz (ai zz (ai zz (ai zz (ai zz (ai zz (ai zz (ai zz (ai zz trivial)))))))))))))))))))))))))))))))), ?_⟩
  rw [n4, n5, n9, n10, n6, n7, n11, n8, n12, n3, n14, n13]
  omega
theorem leaf0_3 (ρ : Nat → Int) (i : Nat) (hi : i < 300) (hI : Inv patP ρ i (i + 1)) (hc : ∀ c ∈ cs0_3, c.1.ev ρ = c.2) : Inv patP (newRho es0_3 ρ) (i + 1) (i + 1) := by
  obtain ⟨hr, h4, h5, h9, h10, h6, h7, h11, h812, h3, h14, h13⟩ := hI
  have hb := bnd0 hr
  have c0 := cAT hb (hc _ (mt (mt (mt (mt mh)))))
  have c1 := cBF hb (hc _ (mt (mt (mt mh))))
  have c2 := cCT hb (hc _ (mt (mt mh)))
  have c3 := cDF hb (hc _ (mt mh))
  have c4 := cFT hb (hc _ mh)
  have n13 := (show newRho es0_3 ρ 13 = _ from kS_ev hb)
  obtain ⟨r1, r3, r4, r5, r6, r7, r8, r9, r10, r11, r12, r13, r14⟩ := hb
  have n1 : newRho es0_3 ρ 1 = ρ 1 := rfl
  have n3 : newRho es0_3 ρ 3 = ρ 3 := rfl
  have n4 : newRho es0_3 ρ 4 = ρ 4 + 1 := addI rfl rfl (by omega)
  have n5 : newRho es0_3 ρ 5 = ρ 5 + 1 := addI rfl rfl (by omega)
  have n6 : newRho es0_3 ρ 6 = ρ 6 + 1 := addI rfl rfl (by omega)
  have n7 : newRho es0_3 ρ 7 = ρ 7 + 1 := addI rfl rfl (by omega)
  have n8 : newRho es0_3 ρ 8 = ρ 8 := rfl
  have n9 : newRho es0_3 ρ 9 = ρ 9 + 1 := addI rfl rfl (by omega)
  have n10 : newRho es0_3 ρ 10 = ρ 10 + 1 := addI rfl rfl (by omega)
  have n11 : newRho es0_3 ρ 11 = ρ 11 + 1 := addI rfl rfl (by omega)
  have n12 : newRho es0_3 ρ 12 = ρ 12 + 1 := addI rfl rfl (by omega)
  have n14 : newRho es0_3 ρ 14 = ρ 3 := rfl
  refine ⟨rgOk_mk (ai zz (ai (bd 1 65535 n1 (by omega)) (ai zz (ai (bd 1 30101 n3 (by omega)) (ai (bd 0 300 n4 (by omega)) (ai (bd 1 301 n5 (by omega)) (ai (bd 0 400 n6 (by omega)) (ai (bd 0 300 n7 (by omega)) (ai (bd 0 300 n8 (by omega)) (ai (bd 0 300 n9 (by omega)) (ai (bd 0 300 n10 (by omega)) (ai (bd 1 301 n11 (by omega)) (ai (bd 0 300 n12 (by omega)) (ai (bd 0 10 n13 (by omega)) (ai (bd 0 30101 n14 (by omega)) (ai zz (ai zz (ai zz (ai zz (ai zz (ai zz (ai zz (ai zz (ai zz (ai zz (ai zz (ai zz (ai zz (ai zz (ai zz (ai zz (ai zz trivial)))))))))))))))))))))))))))))))), ?_⟩
  rw [n4, n5, n9, n10, n6, n7, n11, n8, n12, n3, n14, n13]
  omega
theorem leaf0_4 (ρ : Nat → Int) (i : Nat) (hi : i < 300) (hI : Inv patP ρ i (i + 1)) (hc : ∀ c ∈ cs0_4, c.1.ev ρ = c.2) : Inv patS1 (newRho es0_4 ρ) (i + 1) (i + 1) := by
  obtain ⟨hr, h4, h5, h9, h10, h6, h7, h11, h812, h3, h14, h13⟩ := hI
  have hb := bnd0 hr
  have c0 := cAT hb (hc _ (mt (mt (mt (mt mh)))))
  have c1 := cBF hb (hc _ (mt (mt (mt mh))))
  have c2 := cCT hb (hc _ (mt (mt mh)))
  have c3 := cDF hb (hc _ (mt mh))
  have c4 := cFF hb (hc _ mh)
  have n13 := (show newRho es0_4 ρ 13 = _ from kS_ev hb)
  obtain ⟨r1, r3, r4, r5, r6, r7, r8, r9, r10, r11, r12, r13, r14⟩ := hb
  have n1 : newRho es0_4 ρ 1 = ρ 1 := rfl
  have n3 : newRho es0_4 ρ 3 = ρ 3 := rfl
  have n4 : newRho es0_4 ρ 4 = ρ 4 + 1 := addI rfl rfl (by omega)
  have n5 : newRho es0_4 ρ 5 = ρ 5 + 1 := addI rfl rfl (by omega)
  have n6 : newRho es0_4 ρ 6 = ρ 6 + 1 := addI rfl rfl (by omega)
  have n7 : newRho es0_4 ρ 7 = ρ 7 + 1 := addI rfl rfl (by omega)
  have n8 : newRho es0_4 ρ 8 = ρ 8 := rfl
  have n9 : newRho es0_4 ρ 9 = ρ 9 + 1 := addI rfl rfl (by omega)
  have n10 : newRho es0_4 ρ 10 = ρ 10 + 1 := addI rfl rfl (by omega)
  have n11 : newRho es0_4 ρ 11 = ρ 11 + 1 := addI rfl rfl (by omega)
  have n12 : newRho es0_4 ρ 12 = ρ 12 + 1 := addI rfl rfl (by omega)
  have n14 : newRho es0_4 ρ 14 = ρ 3 := rfl
  have n16 : newRho es0_4 ρ 16 = ρ 11 := rfl
  have n22 : newRho es0_4 ρ 22 = ρ 3 + 10 := addI rfl rfl (by omega)
  refine ⟨rgOk_mk (ai zz (ai (bd 1 65535 n1 (by omega)) (ai zz (ai (bd 1 30101 n3 (by omega)) (ai (bd 0 300 n4 (by omega)) (ai (bd 1 301 n5 (by omega)) (ai (bd 0 400 n6 (by omega)) (ai (bd 0 300 n7 (by omega)) (ai (bd 0 300 n8 (by omega)) (ai (bd 0 300 n9 (by omega)) (ai (bd 0 300 n10 (by omega)) (ai (bd 1 301 n11 (by omega)) (ai (bd 0 300 n12 (by omega)) (ai (bd 0 10 n13 (by omega)) (ai (bd 0 30101 n14 (by omega)) (ai zz (ai (bd 1 400 n16 (by omega)) (ai zz (ai zz (ai zz (ai zz (ai zz (ai (bd 0 40000 n22 (by omega)) (ai zz (ai zz (ai zz (ai zz (ai zz (ai zz (ai zz (ai zz (ai zz trivial)))))))))))))))))))))))))))))))), ?_⟩
  rw [n4, n5, n9, n10, n6, n7, n11, n8, n12, n3, n14, n13]
  omega
theorem leaf0_5 (ρ : Nat → Int) (i : Nat) (hi : i < 300) (hI : Inv patP ρ i (i + 1)) (hc : ∀ c ∈ cs0_5, c.1.ev ρ = c.2) : Inv patP (newRho es0_5 ρ) (i + 1) (i + 1) := by
  obtain ⟨hr, h4, h5, h9, h10, h6, h7, h11, h812, h3, h14, h13⟩ := hI
  have hb := bnd0 hr
  have c0 := cAT hb (hc _ (mt (mt (mt mh))))
  have c1 := cBF hb (hc _ (mt (mt mh)))
  have c2 := cCF hb (hc _ (mt mh))
  have c3 := cFT hb (hc _ mh)
  obtain ⟨r1, r3, r4, r5, r6, r7, r8, r9, r10, r11, r12, r13, r14⟩ := hb
  have n1 : newRho es0_5 ρ 1 = ρ 1 := rfl
  have n3 : newRho es0_5 ρ 3 = ρ 3 := rfl
  have n4 : newRho es0_5 ρ 4 = ρ 4 + 1 := addI rfl rfl (by omega)
  have n5 : newRho es0_5 ρ 5 = ρ 5 + 1 := addI rfl rfl (by omega)
  have n6 : newRho es0_5 ρ 6 = ρ 6 + 1 := addI rfl rfl (by omega)
  have n7 : newRho es0_5 ρ 7 = ρ 7 + 1 := addI rfl rfl (by omega)
  have n8 : newRho es0_5 ρ 8 = ρ 8 := rfl
  have n9 : newRho es0_5 ρ 9 = ρ 9 + 1 := addI rfl rfl (by omega)
  have n10 : newRho es0_5 ρ 10 = ρ 10 + 1 := addI rfl rfl (by omega)
  have n11 : newRho es0_5 ρ 11 = ρ 11 + 1 := addI rfl rfl (by omega)
  have n12 : newRho es0_5 ρ 12 = ρ 12 + 1 := addI rfl rfl (by omega)
  have n13 : newRho es0_5 ρ 13 = 9 := rfl
  have n14 : newRho es0_5 ρ 14 = ρ 3 := rfl
  refine ⟨rgOk_mk (ai zz (ai (bd 1 65535 n1 (by omega)) (ai zz (ai (bd 1 30101 n3 (by omega)) (ai (bd 0 300 n4 (by omega)) (ai (bd 1 301 n5 (by omega)) (ai (bd 0 400 n6 (by omega)) (ai (bd 0 300 n7 (by omega)) (ai (bd 0 300 n8 (by omega)) (ai (bd 0 300 n9 (by omega)) (ai (bd 0 300 n10 (by omega)) (ai (bd 1 301 n11 (by omega)) (ai (bd 0 300 n12 (by omega)) (ai (bd 0 10 n13 (by omega)) (ai (bd 0 30101 n14 (by omega)) (ai zz (ai zz (ai zz (ai zz (ai zz (ai zz (ai zz (ai zz (ai zz (ai zz (ai zz (ai zz (ai zz (ai zz (ai zz (ai zz (ai zz trivial)))))))))))))))))))))))))))))))), ?_⟩
  rw [n4, n5, n9, n10, n6, n7, n11, n8, n12, n3, n14, n13]
  omega
theorem leaf0_6 (ρ : Nat → Int) (i : Nat) (hi : i < 300) (hI : Inv patP ρ i (i + 1)) (hc : ∀ c ∈ cs0_6, c.1.ev ρ = c.2) : Inv patS1 (newRho es0_6 ρ) (i + 1) (i + 1) := by
  obtain ⟨hr, h4, h5, h9, h10, h6, h7, h11, h812, h3, h14, h13⟩ := hI
  have hb := bnd0 hr
  have c0 := cAT hb (hc _ (mt (mt (mt mh))))
  have c1 := cBF hb (hc _ (mt (mt mh)))
  have c2 := cCF hb (hc _ (mt mh))
  have c3 := cFF hb (hc _ mh)
  obtain ⟨r1, r3, r4, r5, r6, r7, r8, r9, r10, r11, r12, r13, r14⟩ := hb
  have n1 : newRho es0_6 ρ 1 = ρ 1 := rfl
  have n3 : newRho es0_6 ρ 3 = ρ 3 := rfl
  have n4 : newRho es0_6 ρ 4 = ρ 4 + 1 := addI rfl rfl (by omega)
  have n5 : newRho es0_6 ρ 5 = ρ 5 + 1 := addI rfl rfl (by omega)
  have n6 : newRho es0_6 ρ 6 = ρ 6 + 1 := addI rfl rfl (by omega)
  have n7 : newRho es0_6 ρ 7 = ρ 7 + 1 := addI rfl rfl (by omega)
  have n8 : newRho es0_6 ρ 8 = ρ 8 := rfl
  have n9 : newRho es0_6 ρ 9 = ρ 9 + 1 := addI rfl rfl (by omega)
  have n10 : newRho es0_6 ρ 10 = ρ 10 + 1 := addI rfl rfl (by omega)
  have n11 : newRho es0_6 ρ 11 = ρ 11 + 1 := addI rfl rfl (by omega)
  have n12 : newRho es0_6 ρ 12 = ρ 12 + 1 := addI rfl rfl (by omega)
  have n13 : newRho es0_6 ρ 13 = 9 := rfl
  have n14 : newRho es0_6 ρ 14 = ρ 3 := rfl
  have n16 : newRho es0_6 ρ 16 = ρ 11 := rfl
  have n22 : newRho es0_6 ρ 22 = ρ 3 + 10 := addI rfl rfl (by omega)
  refine ⟨rgOk_mk (ai zz (ai (bd 1 65535 n1 (by omega)) (ai zz (ai (bd 1 30101 n3 (by omega)) (ai (bd 0 300 n4 (by omega)) (ai (bd 1 301 n5 (by omega)) (ai (bd 0 400 n6 (by omega)) (ai (bd 0 300 n7 (by omega)) (ai (bd 0 300 n8 (by omega)) (ai (bd 0 300 n9 (by omega)) (ai (bd 0 300 n10 (by omega)) (ai (bd 1 301 n11 (by omega)) (ai (bd 0 300 n12 (by omega)) (ai (bd 0 10 n13 (by omega)) (ai (bd 0 30101 n14 (by omega)) (ai zz (ai (bd 1 400 n16 (by omega)) (ai zz (ai zz (ai zz (ai zz (ai zz (ai (bd 0 40000 n22 (by omega)) (ai zz (ai zz (ai zz (ai zz (ai zz (ai zz (ai zz (ai zz (ai zz trivial)))))))))))))))))))))))))))))))), ?_⟩
  rw [n4, n5, n9, n10, n6, n7, n11, n8, n12, n3, n14, n13]
  omega
theorem leaf0_7 (ρ : Nat → Int) (i : Nat) (hi : i < 300) (hI : Inv patP ρ i (i + 1)) (hc : ∀ c ∈ cs0_7, c.1.ev ρ = c.2) : Inv patP (newRho es0_7 ρ) (i + 1) (i + 1) := by
  obtain ⟨hr, h4, h5, h9, h10, h6, h7, h11, h812, h3, h14, h13⟩ := hI
  have hb := bnd0 hr
  have c0 := cAF hb (hc _ (mt mh))
  have c1 := cET hb (hc _ mh)
  obtain ⟨r1, r3, r4, r5, r6, r7, r8, r9, r10, r11, r12, r13, r14⟩ := hb
  have n1 : newRho es0_7 ρ 1 = ρ 1 := rfl
  have n3 : newRho es0_7 ρ 3 = ρ 3 := rfl
  have n4 : newRho es0_7 ρ 4 = ρ 4 + 1 := addI rfl rfl (by omega)
  have n5 : newRho es0_7 ρ 5 = ρ 5 + 1 := addI rfl rfl (by omega)
  have n6 : newRho es0_7 ρ 6 = ρ 6 := rfl
  have n7 : newRho es0_7 ρ 7 = ρ 7 := rfl
  have n8 : newRho es0_7 ρ 8 = ρ 8 + 1 := addI rfl rfl (by omega)
  have n9 : newRho es0_7 ρ 9 = ρ 9 + 1 := addI rfl rfl (by omega)
  have n10 : newRho es0_7 ρ 10 = ρ 10 + 1 := addI rfl rfl (by omega)
  have n11 : newRho es0_7 ρ 11 = ρ 11 := rfl
  have n12 : newRho es0_7 ρ 12 = ρ 12 := rfl
  have n13 : newRho es0_7 ρ 13 = ρ 13 := rfl
  have n14 : newRho es0_7 ρ 14 = ρ 14 := rfl
  refine ⟨rgOk_mk (ai zz (ai (bd 1 65535 n1 (by omega)) (ai zz (ai (bd 1 30101 n3 (by omega)) (ai (bd 0 300 n4 (by omega)) (ai (bd 1 301 n5 (by omega)) (ai (bd 0 400 n6 (by omega)) (ai (bd 0 300 n7 (by omega)) (ai (bd 0 300 n8 (by omega)) (ai (bd 0 300 n9 (by omega)) (ai (bd 0 300 n10 (by omega)) (ai (bd 1 301 n11 (by omega)) (ai (bd 0 300 n12 (by omega)) (ai (bd 0 10 n13 (by omega)) (ai (bd 0 30101 n14 (by omega)) (ai zz (ai zz (ai zz (ai zz (ai zz (ai zz (ai zz (ai zz (ai zz (ai zz (ai zz (ai zz (ai zz (ai zz (ai zz (ai zz (ai zz trivial)))))))))))))))))))))))))))))))), ?_⟩
  rw [n4, n5, n9, n10, n6, n7, n11, n8, n12, n3, n14, n13]
  omega
theorem leaf0_8 (ρ : Nat → Int) (i : Nat) (hi : i < 300) (hI : Inv patP ρ i (i + 1)) (hc : ∀ c ∈ cs0_8, c.1.ev ρ = c.2) : Inv patP (newRho es0_8 ρ) (i + 1) (i + 1) := by
  obtain ⟨hr, h4, h5, h9, h10, h6, h7, h11, h812, h3, h14, h13⟩ := hI
  have hb := bnd0 hr
  have c0 := cAF hb (hc _ (mt (mt mh)))
  have c1 := cEF hb (hc _ (mt mh))
  have c2 := cFT hb (hc _ mh)
  obtain ⟨r1, r3, r4, r5, r6, r7, r8, r9, r10, r11, r12, r13, r14⟩ := hb
  have n1 : newRho es0_8 ρ 1 = ρ 1 := rfl
  have n3 : newRho es0_8 ρ 3 = ρ 3 := rfl
  have n4 : newRho es0_8 ρ 4 = ρ 4 + 1 := addI rfl rfl (by omega)
  have n5 : newRho es0_8 ρ 5 = ρ 5 + 1 := addI rfl rfl (by omega)
  have n6 : newRho es0_8 ρ 6 = ρ 6 + 1 := addI rfl rfl (by omega)
  have n7 : newRho es0_8 ρ 7 = ρ 7 + 1 := addI rfl rfl (by omega)
  have n8 : newRho es0_8 ρ 8 = ρ 8 := rfl
  have n9 : newRho es0_8 ρ 9 = ρ 9 + 1 := addI rfl rfl (by omega)
  have n10 : newRho es0_8 ρ 10 = ρ 10 + 1 := addI rfl rfl (by omega)
  have n11 : newRho es0_8 ρ 11 = ρ 11 + 1 := addI rfl rfl (by omega)
  have n12 : newRho es0_8 ρ 12 = ρ 12 + 1 := addI rfl rfl (by omega)
  have n13 : newRho es0_8 ρ 13 = (ρ 13 + (-1)) := addI rfl rfl (by omega)
  have n14 : newRho es0_8 ρ 14 = ρ 14 := rfl
  refine ⟨rgOk_mk (ai zz (ai (bd 1 65535 n1 (by omega)) (ai zz (ai (bd 1 30101 n3 (by omega)) (ai (bd 0 300 n4 (by omega)) (ai (bd 1 301 n5 (by omega)) (ai (bd 0 400 n6 (by omega)) (ai (bd 0 300 n7 (by omega)) (ai (bd 0 300 n8 (by omega)) (ai (bd 0 300 n9 (by omega)) (ai (bd 0 300 n10 (by omega)) (ai (bd 1 301 n11 (by omega)) (ai (bd 0 300 n12 (by omega)) (ai (bd 0 10 n13 (by omega)) (ai (bd 0 30101 n14 (by omega)) (ai zz (ai zz (ai zz (ai zz (ai zz (ai zz (ai zz (ai zz (ai zz (ai zz (ai zz (ai zz (ai zz (ai zz (ai zz (ai zz (ai zz trivial)))))))))))))))))))))))))))))))), ?_⟩
  rw [n4, n5, n9, n10, n6, n7, n11, n8, n12, n3, n14, n13]
  omega
theorem leaf0_9 (ρ : Nat → Int) (i : Nat) (hi : i < 300) (hI : Inv patP ρ i (i + 1)) (hc : ∀ c ∈ cs0_9, c.1.ev ρ = c.2) : Inv patS1 (newRho es0_9 ρ) (i + 1) (i + 1) := by
  obtain ⟨hr, h4, h5, h9, h10, h6, h7, h11, h812, h3, h14, h13⟩ := hI
  have hb := bnd0 hr
  have c0 := cAF hb (hc _ (mt (mt mh)))
  have c1 := cEF hb (hc _ (mt mh))
  have c2 := cFF hb (hc _ mh)
  obtain ⟨r1, r3, r4, r5, r6, r7, r8, r9, r10, r11, r12, r13, r14⟩ := hb
  have n1 : newRho es0_9 ρ 1 = ρ 1 := rfl
  have n3 : newRho es0_9 ρ 3 = ρ 3 := rfl
  have n4 : newRho es0_9 ρ 4 = ρ 4 + 1 := addI rfl rfl (by omega)
  have n5 : newRho es0_9 ρ 5 = ρ 5 + 1 := addI rfl rfl (by omega)
  have n6 : newRho es0_9 ρ 6 = ρ 6 + 1 := addI rfl rfl (by omega)
  have n7 : newRho es0_9 ρ 7 = ρ 7 + 1 := addI rfl rfl (by omega)
  have n8 : newRho es0_9 ρ 8 = ρ 8 := rfl
  have n9 : newRho es0_9 ρ 9 = ρ 9 + 1 := addI rfl rfl (by omega)
  have n10 : newRho es0_9 ρ 10 = ρ 10 + 1 := addI rfl rfl (by omega)
  have n11 : newRho es0_9 ρ 11 = ρ 11 + 1 := addI rfl rfl (by omega)
  have n12 : newRho es0_9 ρ 12 = ρ 12 + 1 := addI rfl rfl (by omega)
  have n13 : newRho es0_9 ρ 13 = (ρ 13 + (-1)) := addI rfl rfl (by omega)
  have n14 : newRho es0_9 ρ 14 = ρ 14 := rfl
  have n16 : newRho es0_9 ρ 16 = ρ 11 := rfl
  have n22 : newRho es0_9 ρ 22 = ρ 3 + 10 := addI rfl rfl (by omega)
  refine ⟨rgOk_mk (ai zz (ai (bd 1 65535 n1 (by omega)) (ai zz (ai (bd 1 30101 n3 (by omega)) (ai (bd 0 300 n4 (by omega)) (ai (bd 1 301 n5 (by omega)) (ai (bd 0 400 n6 (by omega)) (ai (bd 0 300 n7 (by omega)) (ai (bd 0 300 n8 (by omega)) (ai (bd 0 300 n9 (by omega)) (ai (bd 0 300 n10 (by omega)) (ai (bd 1 301 n11 (by omega)) (ai (bd 0 300 n12 (by omega)) (ai (bd 0 10 n13 (by omega)) (ai (bd 0 30101 n14 (by omega)) (ai zz (ai (bd 1 400 n16 (by omega)) (ai zz (ai zz (ai zz (ai zz (ai zz (ai (bd 0 40000 n22 (by omega)) (ai zz (ai zz (ai zz (ai zz (ai zz (ai zz (ai zz (ai zz (ai zz trivial)))))))))))))))))))))))))))))))), ?_⟩
  rw [n4, n5, n9, n10, n6, n7, n11, n8, n12, n3, n14, n13]
  omega
theorem step0 : ∀ x ∈ LL0, ∀ (ρ : Nat → Int) (i : Nat), i < 300 → Inv patP ρ i (i + 1) → (∀ c ∈ x.2, c.1.ev ρ = c.2) → LeafOk x.1 ρ i := by
  refine List.forall_mem_cons.2 ⟨fun ρ i hi hI hc => leaf0_0 ρ i hi hI hc, ?_⟩
  refine List.forall_mem_cons.2 ⟨fun ρ i hi hI hc => leaf0_1 ρ i hi hI hc, ?_⟩
  refine List.forall_mem_cons.2 ⟨fun ρ i hi hI hc => leaf0_2 ρ i hi hI hc, ?_⟩
  refine List.forall_mem_cons.2 ⟨fun ρ i hi hI hc => leaf0_3 ρ i hi hI hc, ?_⟩
  refine List.forall_mem_cons.2 ⟨fun ρ i hi hI hc => leaf0_4 ρ i hi hI hc, ?_⟩
  refine List.forall_mem_cons.2 ⟨fun ρ i hi hI hc => leaf0_5 ρ i hi hI hc, ?_⟩
  refine List.forall_mem_cons.2 ⟨fun ρ i hi hI hc => leaf0_6 ρ i hi hI hc, ?_⟩
  refine List.forall_mem_cons.2 ⟨fun ρ i hi hI hc => leaf0_7 ρ i hi hI hc, ?_⟩
  refine List.forall_mem_cons.2 ⟨fun ρ i hi hI hc => leaf0_8 ρ i hi hI hc, ?_⟩
  refine List.forall_mem_cons.2 ⟨fun ρ i hi hI hc => leaf0_9 ρ i hi hI hc, ?_⟩
  exact fun x hx => by cases hx

end Go.Proofs.YtoimjmmbppikoaaGreat

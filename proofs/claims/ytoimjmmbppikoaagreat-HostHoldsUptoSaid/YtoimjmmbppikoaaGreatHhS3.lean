/-
  HostHolds: a round out of S3: its ends.
-/
import Derived.Test.YtoimjmmbppikoaaGreatHhi
set_option linter.unusedVariables false
set_option linter.unusedSimpArgs false
namespace Go.Proofs.YtoimjmmbppikoaaGreat
open Go

noncomputable def es3_0 : List AV := [nI 0, vI 1, nI 0, vI 3, pI 4, pI 5, vI 6, pI 7, vI 8, pI 9, pI 10, pI 11, vI 12, nI 9, vI 3, nI 0, vI 16, vI 17, vI 18, vI 11, nI 0, nI 0, vI 22, nI 0, nI 0, nI 0, nI 0, nI 0, nI 0, nI 0, nI 0, nI 0]
noncomputable def cs3_0 : List (SB × Bool) := [(cB, true), (cA, true)]
noncomputable def es3_1 : List AV := [nI 0, vI 1, nI 0, vI 3, pI 4, pI 5, vI 6, vI 7, pI 8, pI 9, pI 10, vI 11, vI 12, .int .i64 hS, vI 3, nI 0, vI 16, vI 17, vI 18, nI 0, nI 0, nI 0, vI 22, nI 0, nI 0, nI 0, nI 0, nI 0, nI 0, nI 0, nI 0, nI 0]
noncomputable def cs3_1 : List (SB × Bool) := [(cD, true), (cC, true), (cB, false), (cA, true)]
noncomputable def es3_2 : List AV := [nI 0, vI 1, nI 0, vI 3, pI 4, pI 5, vI 6, pI 7, vI 8, pI 9, pI 10, pI 11, vI 12, .int .i64 kS, vI 3, nI 0, vI 16, vI 17, vI 18, vI 11, nI 0, nI 0, vI 22, nI 0, nI 0, nI 0, nI 0, nI 0, nI 0, nI 0, nI 0, nI 0]
noncomputable def cs3_2 : List (SB × Bool) := [(cD, false), (cC, true), (cB, false), (cA, true)]
noncomputable def es3_3 : List AV := [nI 0, vI 1, nI 0, vI 3, pI 4, pI 5, vI 6, pI 7, vI 8, pI 9, pI 10, pI 11, vI 12, nI 9, vI 3, nI 0, vI 16, vI 17, vI 18, vI 11, nI 0, nI 0, vI 22, nI 0, nI 0, nI 0, nI 0, nI 0, nI 0, nI 0, nI 0, nI 0]
noncomputable def cs3_3 : List (SB × Bool) := [(cC, false), (cB, false), (cA, true)]
noncomputable def es3_4 : List AV := [nI 0, vI 1, nI 0, vI 3, pI 4, pI 5, vI 6, vI 7, pI 8, pI 9, pI 10, vI 11, vI 12, vI 13, vI 14, nI 0, vI 16, vI 17, vI 18, nI 0, nI 0, nI 0, vI 22, nI 0, nI 0, nI 0, nI 0, nI 0, nI 0, nI 0, nI 0, nI 0]
noncomputable def cs3_4 : List (SB × Bool) := [(cE, true), (cA, false)]
noncomputable def es3_5 : List AV := [nI 0, vI 1, nI 0, vI 3, pI 4, pI 5, vI 6, pI 7, vI 8, pI 9, pI 10, pI 11, vI 12, .int .i64 (.bin .add .i64 (.var 13) (.lit (.negSucc 0))), vI 14, nI 0, vI 16, vI 17, vI 18, vI 11, nI 0, nI 0, vI 22, nI 0, nI 0, nI 0, nI 0, nI 0, nI 0, nI 0, nI 0, nI 0]
noncomputable def cs3_5 : List (SB × Bool) := [(cE, false), (cA, false)]
noncomputable def LL3 : List (AV × List (SB × Bool)) := [(.tup (.int .i64 (.lit (.ofNat 4)) :: es3_0), cs3_0), (.tup (.int .i64 (.lit (.ofNat 3)) :: es3_1), cs3_1), (.tup (.int .i64 (.lit (.ofNat 4)) :: es3_2), cs3_2), (.tup (.int .i64 (.lit (.ofNat 4)) :: es3_3), cs3_3), (.tup (.int .i64 (.lit (.ofNat 3)) :: es3_4), cs3_4), (.tup (.int .i64 (.lit (.ofNat 4)) :: es3_5), cs3_5)]
theorem leaf3_0 (ρ : Nat → Int) (i : Nat) (hi : i < 300) (hI : Inv patS3 ρ i (i + 1)) (hc : ∀ c ∈ cs3_0, c.1.ev ρ = c.2) : Inv patS4 (newRho es3_0 ρ) (i + 1) (i + 1) := by
  obtain ⟨hr, h4, h5, h9, h10, h6, h7, h11, h812, h3, h14, h13⟩ := hI
  have hb := bnd3 hr
  have c0 := cAT hb (hc _ (mt mh))
  have c1 := cBT hb (hc _ mh)
  obtain ⟨r1, r3, r4, r5, r6, r7, r8, r9, r10, r11, r12, r13, r14⟩ := hb
  have r16 := hr 16 1 400 rfl
  have r17 := hr 17 1 400 rfl
  have r18 := hr 18 1 400 rfl
  have r22 := hr 22 0 40000 rfl
  have n1 : newRho es3_0 ρ 1 = ρ 1 := rfl
  have n3 : newRho es3_0 ρ 3 = ρ 3 := rfl
  have n4 : newRho es3_0 ρ 4 = ρ 4 + 1 := addI rfl rfl (by omega)
  have n5 : newRho es3_0 ρ 5 = ρ 5 + 1 := addI rfl rfl (by omega)
  have n6 : newRho es3_0 ρ 6 = ρ 6 := rfl
  have n7 : newRho es3_0 ρ 7 = ρ 7 + 1 := addI rfl rfl (by omega)
  have n8 : newRho es3_0 ρ 8 = ρ 8 := rfl
  have n9 : newRho es3_0 ρ 9 = ρ 9 + 1 := addI rfl rfl (by omega)
  have n10 : newRho es3_0 ρ 10 = ρ 10 + 1 := addI rfl rfl (by omega)
  have n11 : newRho es3_0 ρ 11 = ρ 11 + 1 := addI rfl rfl (by omega)
  have n12 : newRho es3_0 ρ 12 = ρ 12 := rfl
  have n13 : newRho es3_0 ρ 13 = 9 := rfl
  have n14 : newRho es3_0 ρ 14 = ρ 3 := rfl
  have n16 : newRho es3_0 ρ 16 = ρ 16 := rfl
  have n17 : newRho es3_0 ρ 17 = ρ 17 := rfl
  have n18 : newRho es3_0 ρ 18 = ρ 18 := rfl
  have n19 : newRho es3_0 ρ 19 = ρ 11 := rfl
  have n22 : newRho es3_0 ρ 22 = ρ 22 := rfl
  refine ⟨rgOk_mk (ai zz (ai (bd 1 65535 n1 (by omega)) (ai zz (ai (bd 1 30101 n3 (by omega)) (ai (bd 0 300 n4 (by omega)) (ai (bd 1 301 n5 (by omega)) (ai (bd 0 400 n6 (by omega)) (ai (bd 0 300 n7 (by omega)) (ai (bd 0 300 n8 (by omega)) (ai (bd 0 300 n9 (by omega)) (ai (bd 0 300 n10 (by omega)) (ai (bd 1 301 n11 (by omega)) (ai (bd 0 300 n12 (by omega)) (ai (bd 0 10 n13 (by omega)) (ai (bd 0 30101 n14 (by omega)) (ai zz (ai (bd 1 400 n16 (by omega)) (ai (bd 1 400 n17 (by omega)) (ai (bd 1 400 n18 (by omega)) (ai (bd 1 400 n19 (by omega)) (ai zz (ai zz (ai (bd 0 40000 n22 (by omega)) (ai zz (ai zz (ai zz (ai zz (ai zz (ai zz (ai zz (ai zz (ai zz trivial)))))))))))))))))))))))))))))))), ?_⟩
  rw [n4, n5, n9, n10, n6, n7, n11, n8, n12, n3, n14, n13]
  omega
theorem leaf3_1 (ρ : Nat → Int) (i : Nat) (hi : i < 300) (hI : Inv patS3 ρ i (i + 1)) (hc : ∀ c ∈ cs3_1, c.1.ev ρ = c.2) : Inv patS3 (newRho es3_1 ρ) (i + 1) (i + 1) := by
  obtain ⟨hr, h4, h5, h9, h10, h6, h7, h11, h812, h3, h14, h13⟩ := hI
  have hb := bnd3 hr
  have c0 := cAT hb (hc _ (mt (mt (mt mh))))
  have c1 := cBF hb (hc _ (mt (mt mh)))
  have c2 := cCT hb (hc _ (mt mh))
  have c3 := cDT hb (hc _ mh)
  have n13 := (show newRho es3_1 ρ 13 = _ from hS_ev hb)
  obtain ⟨r1, r3, r4, r5, r6, r7, r8, r9, r10, r11, r12, r13, r14⟩ := hb
  have r16 := hr 16 1 400 rfl
  have r17 := hr 17 1 400 rfl
  have r18 := hr 18 1 400 rfl
  have r22 := hr 22 0 40000 rfl
  have n1 : newRho es3_1 ρ 1 = ρ 1 := rfl
  have n3 : newRho es3_1 ρ 3 = ρ 3 := rfl
  have n4 : newRho es3_1 ρ 4 = ρ 4 + 1 := addI rfl rfl (by omega)
  have n5 : newRho es3_1 ρ 5 = ρ 5 + 1 := addI rfl rfl (by omega)
  have n6 : newRho es3_1 ρ 6 = ρ 6 := rfl
  have n7 : newRho es3_1 ρ 7 = ρ 7 := rfl
  have n8 : newRho es3_1 ρ 8 = ρ 8 + 1 := addI rfl rfl (by omega)
  have n9 : newRho es3_1 ρ 9 = ρ 9 + 1 := addI rfl rfl (by omega)
  have n10 : newRho es3_1 ρ 10 = ρ 10 + 1 := addI rfl rfl (by omega)
  have n11 : newRho es3_1 ρ 11 = ρ 11 := rfl
  have n12 : newRho es3_1 ρ 12 = ρ 12 := rfl
  have n14 : newRho es3_1 ρ 14 = ρ 3 := rfl
  have n16 : newRho es3_1 ρ 16 = ρ 16 := rfl
  have n17 : newRho es3_1 ρ 17 = ρ 17 := rfl
  have n18 : newRho es3_1 ρ 18 = ρ 18 := rfl
  have n22 : newRho es3_1 ρ 22 = ρ 22 := rfl
  refine ⟨rgOk_mk (ai zz (ai (bd 1 65535 n1 (by omega)) (ai zz (ai (bd 1 30101 n3 (by omega)) (ai (bd 0 300 n4 (by omega)) (ai (bd 1 301 n5 (by omega)) (ai (bd 0 400 n6 (by omega)) (ai (bd 0 300 n7 (by omega)) (ai (bd 0 300 n8 (by omega)) (ai (bd 0 300 n9 (by omega)) (ai (bd 0 300 n10 (by omega)) (ai (bd 1 301 n11 (by omega)) (ai (bd 0 300 n12 (by omega)) (ai (bd 0 10 n13 (by omega)) (ai (bd 0 30101 n14 (by omega)) (ai zz (ai (bd 1 400 n16 (by omega)) (ai (bd 1 400 n17 (by omega)) (ai (bd 1 400 n18 (by omega)) (ai zz (ai zz (ai zz (ai (bd 0 40000 n22 (by omega)) (ai zz (ai zz (ai zz (ai zz (ai zz (ai zz (ai zz (ai zz (ai zz trivial)))))))))))))))))))))))))))))))), ?_⟩
  rw [n4, n5, n9, n10, n6, n7, n11, n8, n12, n3, n14, n13]
  omega
theorem leaf3_2 (ρ : Nat → Int) (i : Nat) (hi : i < 300) (hI : Inv patS3 ρ i (i + 1)) (hc : ∀ c ∈ cs3_2, c.1.ev ρ = c.2) : Inv patS4 (newRho es3_2 ρ) (i + 1) (i + 1) := by
  obtain ⟨hr, h4, h5, h9, h10, h6, h7, h11, h812, h3, h14, h13⟩ := hI
  have hb := bnd3 hr
  have c0 := cAT hb (hc _ (mt (mt (mt mh))))
  have c1 := cBF hb (hc _ (mt (mt mh)))
  have c2 := cCT hb (hc _ (mt mh))
  have c3 := cDF hb (hc _ mh)
  have n13 := (show newRho es3_2 ρ 13 = _ from kS_ev hb)
  obtain ⟨r1, r3, r4, r5, r6, r7, r8, r9, r10, r11, r12, r13, r14⟩ := hb
  have r16 := hr 16 1 400 rfl
  have r17 := hr 17 1 400 rfl
  have r18 := hr 18 1 400 rfl
  have r22 := hr 22 0 40000 rfl
  have n1 : newRho es3_2 ρ 1 = ρ 1 := rfl
  have n3 : newRho es3_2 ρ 3 = ρ 3 := rfl
  have n4 : newRho es3_2 ρ 4 = ρ 4 + 1 := addI rfl rfl (by omega)
  have n5 : newRho es3_2 ρ 5 = ρ 5 + 1 := addI rfl rfl (by omega)
  have n6 : newRho es3_2 ρ 6 = ρ 6 := rfl
  have n7 : newRho es3_2 ρ 7 = ρ 7 + 1 := addI rfl rfl (by omega)
  have n8 : newRho es3_2 ρ 8 = ρ 8 := rfl
  have n9 : newRho es3_2 ρ 9 = ρ 9 + 1 := addI rfl rfl (by omega)
  have n10 : newRho es3_2 ρ 10 = ρ 10 + 1 := addI rfl rfl (by omega)
  have n11 : newRho es3_2 ρ 11 = ρ 11 + 1 := addI rfl rfl (by omega)
  have n12 : newRho es3_2 ρ 12 = ρ 12 := rfl
  have n14 : newRho es3_2 ρ 14 = ρ 3 := rfl
  have n16 : newRho es3_2 ρ 16 = ρ 16 := rfl
  have n17 : newRho es3_2 ρ 17 = ρ 17 := rfl
  have n18 : newRho es3_2 ρ 18 = ρ 18 := rfl
  have n19 : newRho es3_2 ρ 19 = ρ 11 := rfl
  have n22 : newRho es3_2 ρ 22 = ρ 22 := rfl
  refine ⟨rgOk_mk (ai zz (ai (bd 1 65535 n1 (by omega)) (ai zz (ai (bd 1 30101 n3 (by omega)) (ai (bd 0 300 n4 (by omega)) (ai (bd 1 301 n5 (by omega)) (ai (bd 0 400 n6 (by omega)) (ai (bd 0 300 n7 (by omega)) (ai (bd 0 300 n8 (by omega)) (ai (bd 0 300 n9 (by omega)) (ai (bd 0 300 n10 (by omega)) (ai (bd 1 301 n11 (by omega)) (ai (bd 0 300 n12 (by omega)) (ai (bd 0 10 n13 (by omega)) (ai (bd 0 30101 n14 (by omega)) (ai zz (ai (bd 1 400 n16 (by omega)) (ai (bd 1 400 n17 (by omega)) (ai (bd 1 400 n18 (by omega)) (ai (bd 1 400 n19 (by omega)) (ai zz (ai zz (ai (bd 0 40000 n22 (by omega)) (ai zz (ai zz (ai zz (ai zz (ai zz (ai zz (ai zz (ai zz (ai zz trivial)))))))))))))))))))))))))))))))), ?_⟩
  rw [n4, n5, n9, n10, n6, n7, n11, n8, n12, n3, n14, n13]
  omega
theorem leaf3_3 (ρ : Nat → Int) (i : Nat) (hi : i < 300) (hI : Inv patS3 ρ i (i + 1)) (hc : ∀ c ∈ cs3_3, c.1.ev ρ = c.2) : Inv patS4 (newRho es3_3 ρ) (i + 1) (i + 1) := by
  obtain ⟨hr, h4, h5, h9, h10, h6, h7, h11, h812, h3, h14, h13⟩ := hI
  have hb := bnd3 hr
  have c0 := cAT hb (hc _ (mt (mt mh)))
  have c1 := cBF hb (hc _ (mt mh))
  have c2 := cCF hb (hc _ mh)
  obtain ⟨r1, r3, r4, r5, r6, r7, r8, r9, r10, r11, r12, r13, r14⟩ := hb
  have r16 := hr 16 1 400 rfl
  have r17 := hr 17 1 400 rfl
  have r18 := hr 18 1 400 rfl
  have r22 := hr 22 0 40000 rfl
  have n1 : newRho es3_3 ρ 1 = ρ 1 := rfl
  have n3 : newRho es3_3 ρ 3 = ρ 3 := rfl
  have n4 : newRho es3_3 ρ 4 = ρ 4 + 1 := addI rfl rfl (by omega)
  have n5 : newRho es3_3 ρ 5 = ρ 5 + 1 := addI rfl rfl (by omega)
  have n6 : newRho es3_3 ρ 6 = ρ 6 := rfl
  have n7 : newRho es3_3 ρ 7 = ρ 7 + 1 := addI rfl rfl (by omega)
  have n8 : newRho es3_3 ρ 8 = ρ 8 := rfl
  have n9 : newRho es3_3 ρ 9 = ρ 9 + 1 := addI rfl rfl (by omega)
  have n10 : newRho es3_3 ρ 10 = ρ 10 + 1 := addI rfl rfl (by omega)
  have n11 : newRho es3_3 ρ 11 = ρ 11 + 1 := addI rfl rfl (by omega)
  have n12 : newRho es3_3 ρ 12 = ρ 12 := rfl
  have n13 : newRho es3_3 ρ 13 = 9 := rfl
  have n14 : newRho es3_3 ρ 14 = ρ 3 := rfl
  have n16 : newRho es3_3 ρ 16 = ρ 16 := rfl
  have n17 : newRho es3_3 ρ 17 = ρ 17 := rfl
  have n18 : newRho es3_3 ρ 18 = ρ 18 := rfl
  have n19 : newRho es3_3 ρ 19 = ρ 11 := rfl
  have n22 : newRho es3_3 ρ 22 = ρ 22 := rfl
  refine ⟨rgOk_mk (ai zz (ai (bd 1 65535 n1 (by omega)) (ai zz (ai (bd 1 30101 n3 (by omega)) (ai (bd 0 300 n4 (by omega)) (ai (bd 1 301 n5 (by omega)) (ai (bd 0 400 n6 (by omega)) (ai (bd 0 300 n7 (by omega)) (ai (bd 0 300 n8 (by omega)) (ai (bd 0 300 n9 (by omega)) (ai (bd 0 300 n10 (by omega)) (ai (bd 1 301 n11 (by omega)) (ai (bd 0 300 n12 (by omega)) (ai (bd 0 10 n13 (by omega)) (ai (bd 0 30101 n14 (by omega)) (ai zz (ai (bd 1 400 n16 (by omega)) (ai (bd 1 400 n17 (by omega)) (ai (bd 1 400 n18 (by omega)) (ai (bd 1 400 n19 (by omega)) (ai zz (ai zz (ai (bd 0 40000 n22 (by omega)) (ai zz (ai zz (ai zz (ai zz (ai zz (ai zz (ai zz (ai zz (ai zz trivial)))))))))))))))))))))))))))))))), ?_⟩
  rw [n4, n5, n9, n10, n6, n7, n11, n8, n12, n3, n14, n13]
  omega
theorem leaf3_4 (ρ : Nat → Int) (i : Nat) (hi : i < 300) (hI : Inv patS3 ρ i (i + 1)) (hc : ∀ c ∈ cs3_4, c.1.ev ρ = c.2) : Inv patS3 (newRho es3_4 ρ) (i + 1) (i + 1) := by
  obtain ⟨hr, h4, h5, h9, h10, h6, h7, h11, h812, h3, h14, h13⟩ := hI
  have hb := bnd3 hr
  have c0 := cAF hb (hc _ (mt mh))
  have c1 := cET hb (hc _ mh)
  obtain ⟨r1, r3, r4, r5, r6, r7, r8, r9, r10, r11, r12, r13, r14⟩ := hb
  have r16 := hr 16 1 400 rfl
  have r17 := hr 17 1 400 rfl
  have r18 := hr 18 1 400 rfl
  have r22 := hr 22 0 40000 rfl
  have n1 : newRho es3_4 ρ 1 = ρ 1 := rfl
  have n3 : newRho es3_4 ρ 3 = ρ 3 := rfl
  have n4 : newRho es3_4 ρ 4 = ρ 4 + 1 := addI rfl rfl (by omega)
  have n5 : newRho es3_4 ρ 5 = ρ 5 + 1 := addI rfl rfl (by omega)
  have n6 : newRho es3_4 ρ 6 = ρ 6 := rfl
  have n7 : newRho es3_4 ρ 7 = ρ 7 := rfl
  have n8 : newRho es3_4 ρ 8 = ρ 8 + 1 := addI rfl rfl (by omega)
  have n9 : newRho es3_4 ρ 9 = ρ 9 + 1 := addI rfl rfl (by omega)
  have n10 : newRho es3_4 ρ 10 = ρ 10 + 1 := addI rfl rfl (by omega)
  have n11 : newRho es3_4 ρ 11 = ρ 11 := rfl
  have n12 : newRho es3_4 ρ 12 = ρ 12 := rfl
  have n13 : newRho es3_4 ρ 13 = ρ 13 := rfl
  have n14 : newRho es3_4 ρ 14 = ρ 14 := rfl
  have n16 : newRho es3_4 ρ 16 = ρ 16 := rfl
  have n17 : newRho es3_4 ρ 17 = ρ 17 := rfl
  have n18 : newRho es3_4 ρ 18 = ρ 18 := rfl
  have n22 : newRho es3_4 ρ 22 = ρ 22 := rfl
  refine ⟨rgOk_mk (ai zz (ai (bd 1 65535 n1 (by omega)) (ai zz (ai (bd 1 30101 n3 (by omega)) (ai (bd 0 300 n4 (by omega)) (ai (bd 1 301 n5 (by omega)) (ai (bd 0 400 n6 (by omega)) (ai (bd 0 300 n7 (by omega)) (ai (bd 0 300 n8 (by omega)) (ai (bd 0 300 n9 (by omega)) (ai (bd 0 300 n10 (by omega)) (ai (bd 1 301 n11 (by omega)) (ai (bd 0 300 n12 (by omega)) (ai (bd 0 10 n13 (by omega)) (ai (bd 0 30101 n14 (by omega)) (ai zz (ai (bd 1 400 n16 (by omega)) (ai (bd 1 400 n17 (by omega)) (ai (bd 1 400 n18 (by omega)) (ai zz (ai zz (ai zz (ai (bd 0 40000 n22 (by omega)) (ai zz (ai zz (ai zz (ai zz (ai zz (ai zz (ai zz (ai zz (ai zz trivial)))))))))))))))))))))))))))))))), ?_⟩
  rw [n4, n5, n9, n10, n6, n7, n11, n8, n12, n3, n14, n13]
  omega
theorem leaf3_5 (ρ : Nat → Int) (i : Nat) (hi : i < 300) (hI : Inv patS3 ρ i (i + 1)) (hc : ∀ c ∈ cs3_5, c.1.ev ρ = c.2) : Inv patS4 (newRho es3_5 ρ) (i + 1) (i + 1) := by
  obtain ⟨hr, h4, h5, h9, h10, h6, h7, h11, h812, h3, h14, h13⟩ := hI
  have hb := bnd3 hr
  have c0 := cAF hb (hc _ (mt mh))
  have c1 := cEF hb (hc _ mh)
  obtain ⟨r1, r3, r4, r5, r6, r7, r8, r9, r10, r11, r12, r13, r14⟩ := hb
  have r16 := hr 16 1 400 rfl
  have r17 := hr 17 1 400 rfl
  have r18 := hr 18 1 400 rfl
  have r22 := hr 22 0 40000 rfl
  have n1 : newRho es3_5 ρ 1 = ρ 1 := rfl
  have n3 : newRho es3_5 ρ 3 = ρ 3 := rfl
  have n4 : newRho es3_5 ρ 4 = ρ 4 + 1 := addI rfl rfl (by omega)
  have n5 : newRho es3_5 ρ 5 = ρ 5 + 1 := addI rfl rfl (by omega)
  have n6 : newRho es3_5 ρ 6 = ρ 6 := rfl
  have n7 : newRho es3_5 ρ 7 = ρ 7 + 1 := addI rfl rfl (by omega)
  have n8 : newRho es3_5 ρ 8 = ρ 8 := rfl
  have n9 : newRho es3_5 ρ 9 = ρ 9 + 1 := addI rfl rfl (by omega)
  have n10 : newRho es3_5 ρ 10 = ρ 10 + 1 := addI rfl rfl (by omega)
  have n11 : newRho es3_5 ρ 11 = ρ 11 + 1 := addI rfl rfl (by omega)
  have n12 : newRho es3_5 ρ 12 = ρ 12 := rfl
  have n13 : newRho es3_5 ρ 13 = (ρ 13 + (-1)) := addI rfl rfl (by omega)
  have n14 : newRho es3_5 ρ 14 = ρ 14 := rfl
  have n16 : newRho es3_5 ρ 16 = ρ 16 := rfl
  have n17 : newRho es3_5 ρ 17 = ρ 17 := rfl
  have n18 : newRho es3_5 ρ 18 = ρ 18 := rfl
  have n19 : newRho es3_5 ρ 19 = ρ 11 := rfl
  have n22 : newRho es3_5 ρ 22 = ρ 22 := rfl
  refine ⟨rgOk_mk (ai zz (ai (bd 1 65535 n1 (by omega)) (ai zz (ai (bd 1 30101 n3 (by omega)) (ai (bd 0 300 n4 (by omega)) (ai (bd 1 301 n5 (by omega)) (ai (bd 0 400 n6 (by omega)) (ai (bd 0 300 n7 (by omega)) (ai (bd 0 300 n8 (by omega)) (ai (bd 0 300 n9 (by omega)) (ai (bd 0 300 n10 (by omega)) (ai (bd 1 301 n11 (by omega)) (ai (bd 0 300 n12 (by omega)) (ai (bd 0 10 n13 (by omega)) (ai (bd 0 30101 n14 (by omega)) (ai zz (ai (bd 1 400 n16 (by omega)) (ai (bd 1 400 n17 (by omega)) (ai (bd 1 400 n18 (by omega)) (ai (bd 1 400 n19 (by omega)) (ai zz (ai zz (ai (bd 0 40000 n22 (by omega)) (ai zz (ai zz (ai zz (ai zz (ai zz (ai zz (ai zz (ai zz (ai zz trivial)))))))))))))))))))))))))))))))), ?_⟩
  rw [n4, n5, n9, n10, n6, n7, n11, n8, n12, n3, n14, n13]
  omega
theorem step3 : ∀ x ∈ LL3, ∀ (ρ : Nat → Int) (i : Nat), i < 300 → Inv patS3 ρ i (i + 1) → (∀ c ∈ x.2, c.1.ev ρ = c.2) → LeafOk x.1 ρ i := by
  refine List.forall_mem_cons.2 ⟨fun ρ i hi hI hc => leaf3_0 ρ i hi hI hc, ?_⟩
  refine List.forall_mem_cons.2 ⟨fun ρ i hi hI hc => leaf3_1 ρ i hi hI hc, ?_⟩
  refine List.forall_mem_cons.2 ⟨fun ρ i hi hI hc => leaf3_2 ρ i hi hI hc, ?_⟩
  refine List.forall_mem_cons.2 ⟨fun ρ i hi hI hc => leaf3_3 ρ i hi hI hc, ?_⟩
  refine List.forall_mem_cons.2 ⟨fun ρ i hi hI hc => leaf3_4 ρ i hi hI hc, ?_⟩
  refine List.forall_mem_cons.2 ⟨fun ρ i hi hI hc => leaf3_5 ρ i hi hI hc, ?_⟩
  exact fun x hx => by cases hx

end Go.Proofs.YtoimjmmbppikoaaGreat

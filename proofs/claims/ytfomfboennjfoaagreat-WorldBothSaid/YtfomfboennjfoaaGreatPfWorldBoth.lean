import Derived.Test.YtfomfboennjfoaaGreatRows
import Derived.WalkKit
import Derived.ProofKit
import Derived.OpenShut
import Derived.Below
import Derived.Test.YtfomfboennjfoaaGreatPcB
import Derived.Test.YtfomfboennjfoaaGreatPaWorldBothQ0
import Derived.Test.YtfomfboennjfoaaGreatJfWorldBoth
namespace Go.Proofs.YtfomfboennjfoaaGreat.worldBoth
open Go.ChangeShapes Go.WideShapes Go.ChangeAt Go.RowKit
open Go
set_option linter.unusedVariables false
set_option linter.unusedSimpArgs false

theorem own : ownKnob Tryz.prog.godebug = none := by kernel_rfl
section
variable {P : Program} {w : World} {r : Reach} {base : Nat} {t : TypeId} {v : Value}
theorem cell_int {k : IntKind} (ht : P.underlying t = some (.int k)) (h : Cell.okWide P w r base t v) : ∃ n, v = .int k n ∧ k.min ≤ n ∧ n ≤ k.max := by
  simp only [Cell.okWide, ht] at h
  cases v <;> simp_all [Cell.ok, IntKind.has]
theorem cell_bool (ht : P.underlying t = some .bool) (h : Cell.okWide P w r base t v) : ∃ b, v = .bool b := by
  simp only [Cell.okWide, ht] at h
  cases v <;> simp_all [Cell.ok]
theorem cell_slice {e : TypeId} (ht : P.underlying t = some (.slice e)) (h : Cell.okWide P w r base t v) : ∃ a n c, v = .slice a n c := by
  simp only [Cell.okWide, ht] at h
  cases v <;> simp_all [Cell.ok]
end
theorem in_i64 {n : Int} (h : IntKind.i64.min ≤ n ∧ n ≤ IntKind.i64.max) : (-9223372036854775808) ≤ n ∧ n ≤ 9223372036854775807 := by
  rw [show IntKind.i64.min = (-9223372036854775808) by decide, show IntKind.i64.max = 9223372036854775807 by decide] at h
  exact h
set_option maxRecDepth 100000 in
theorem open_int {W : World} {base : Nat} {v : Value} (h : Value.okWide Tryz.prog W .any base 3 v) : ∃ (a0 : Int), v = .int .i64 a0 ∧ ((-9223372036854775808) ≤ a0 ∧ a0 ≤ 9223372036854775807) := by
    simp only [Value.okWide, Tryz.underlying3] at h
    obtain ⟨a0, rfl, h0⟩ := cell_int Tryz.underlying3 h
    have h0 := in_i64 h0
    exact ⟨_, rfl, h0⟩

theorem walk (w : World) (a0 : Int) (h0 : ((-9223372036854775808) ≤ a0 ∧ a0 ≤ 9223372036854775807)) (v1 : Value) (v1_in : RowIn w v1) (v2 : Value) (v2_in : RowIn w v2) : Calls Tryz.prog 6 #[.int .i64 a0, v1, v2] w fun e w' => e = .returned (.bool true) ∧ Kp [] w w' := by
  have hc0 : ((-9223372036854775808) ≤ a0 ∧ a0 ≤ 0) ∨ (1 ≤ a0 ∧ a0 ≤ 65535) ∨ (65536 ≤ a0 ∧ a0 ≤ 9223372036854775807) := by omega
  clear h0
  rcases hc0 with h0 | h0 | h0
  · rcases v1_in with rfl | ⟨q1, rfl⟩ | ⟨bb1, oo1, nn1, cc1, zz1, rfl, x1_1, x2_1, x3_1, x4_1, x5_1⟩
    · rcases v2_in with rfl | ⟨q2, rfl⟩ | ⟨bb2, oo2, nn2, cc2, zz2, rfl, x1_2, x2_2, x3_2, x4_2, x5_2⟩
      · exact pPL_any w a0 (by omega) none 0 0 (by omega) none 0 0 (by omega)
      · exact pPL_any w a0 (by omega) none 0 0 (by omega) (some q2) 0 0 (by omega)
      · obtain ⟨r2, hr2, k2⟩ : ∃ r : RowD, r = ⟨nn2, bb2, oo2, cc2, zz2⟩ ∧ r.Ok w := ⟨_, rfl, ⟨x1_2, x2_2, x3_2, x4_2, x5_2⟩⟩
        have hv2 : Value.slice (some ⟨bb2, oo2, none⟩) nn2 cc2 = r2.v := by rw [hr2]; rfl
        rw [hv2]
        clear hr2 hv2 x1_2 x2_2 x3_2 x4_2 x5_2
        have mx2 : r2.n ≤ 9223372036854775807 := Nat.le_trans k2.le k2.mx
        exact pPL_any w a0 (by omega) none 0 0 (by omega) _ r2.n r2.c (by omega) 
    · rcases v2_in with rfl | ⟨q2, rfl⟩ | ⟨bb2, oo2, nn2, cc2, zz2, rfl, x1_2, x2_2, x3_2, x4_2, x5_2⟩
      · exact pPL_any w a0 (by omega) (some q1) 0 0 (by omega) none 0 0 (by omega)
      · exact pPL_any w a0 (by omega) (some q1) 0 0 (by omega) (some q2) 0 0 (by omega)
      · obtain ⟨r2, hr2, k2⟩ : ∃ r : RowD, r = ⟨nn2, bb2, oo2, cc2, zz2⟩ ∧ r.Ok w := ⟨_, rfl, ⟨x1_2, x2_2, x3_2, x4_2, x5_2⟩⟩
        have hv2 : Value.slice (some ⟨bb2, oo2, none⟩) nn2 cc2 = r2.v := by rw [hr2]; rfl
        rw [hv2]
        clear hr2 hv2 x1_2 x2_2 x3_2 x4_2 x5_2
        have mx2 : r2.n ≤ 9223372036854775807 := Nat.le_trans k2.le k2.mx
        exact pPL_any w a0 (by omega) (some q1) 0 0 (by omega) _ r2.n r2.c (by omega) 
    · obtain ⟨r1, hr1, k1⟩ : ∃ r : RowD, r = ⟨nn1, bb1, oo1, cc1, zz1⟩ ∧ r.Ok w := ⟨_, rfl, ⟨x1_1, x2_1, x3_1, x4_1, x5_1⟩⟩
      have hv1 : Value.slice (some ⟨bb1, oo1, none⟩) nn1 cc1 = r1.v := by rw [hr1]; rfl
      rw [hv1]
      clear hr1 hv1 x1_1 x2_1 x3_1 x4_1 x5_1
      have mx1 : r1.n ≤ 9223372036854775807 := Nat.le_trans k1.le k1.mx
      rcases v2_in with rfl | ⟨q2, rfl⟩ | ⟨bb2, oo2, nn2, cc2, zz2, rfl, x1_2, x2_2, x3_2, x4_2, x5_2⟩
      · exact pPL_any w a0 (by omega) _ r1.n r1.c (by omega) none 0 0 (by omega)
      · exact pPL_any w a0 (by omega) _ r1.n r1.c (by omega) (some q2) 0 0 (by omega)
      · obtain ⟨r2, hr2, k2⟩ : ∃ r : RowD, r = ⟨nn2, bb2, oo2, cc2, zz2⟩ ∧ r.Ok w := ⟨_, rfl, ⟨x1_2, x2_2, x3_2, x4_2, x5_2⟩⟩
        have hv2 : Value.slice (some ⟨bb2, oo2, none⟩) nn2 cc2 = r2.v := by rw [hr2]; rfl
        rw [hv2]
        clear hr2 hv2 x1_2 x2_2 x3_2 x4_2 x5_2
        have mx2 : r2.n ≤ 9223372036854775807 := Nat.le_trans k2.le k2.mx
        exact pPL_any w a0 (by omega) _ r1.n r1.c (by omega) _ r2.n r2.c (by omega) 
  · rcases v1_in with rfl | ⟨q1, rfl⟩ | ⟨bb1, oo1, nn1, cc1, zz1, rfl, x1_1, x2_1, x3_1, x4_1, x5_1⟩
    · rcases v2_in with rfl | ⟨q2, rfl⟩ | ⟨bb2, oo2, nn2, cc2, zz2, rfl, x1_2, x2_2, x3_2, x4_2, x5_2⟩
      · exact pAZ_any w a0 (by omega) none 0 0 (by omega) none 0 0 (by omega)
      · exact pAZ_any w a0 (by omega) none 0 0 (by omega) (some q2) 0 0 (by omega)
      · obtain ⟨r2, hr2, k2⟩ : ∃ r : RowD, r = ⟨nn2, bb2, oo2, cc2, zz2⟩ ∧ r.Ok w := ⟨_, rfl, ⟨x1_2, x2_2, x3_2, x4_2, x5_2⟩⟩
        have hv2 : Value.slice (some ⟨bb2, oo2, none⟩) nn2 cc2 = r2.v := by rw [hr2]; rfl
        rw [hv2]
        clear hr2 hv2 x1_2 x2_2 x3_2 x4_2 x5_2
        have mx2 : r2.n ≤ 9223372036854775807 := Nat.le_trans k2.le k2.mx
        exact pAZ_any w a0 (by omega) none 0 0 (by omega) _ r2.n r2.c (by omega) 
    · rcases v2_in with rfl | ⟨q2, rfl⟩ | ⟨bb2, oo2, nn2, cc2, zz2, rfl, x1_2, x2_2, x3_2, x4_2, x5_2⟩
      · exact pAZ_any w a0 (by omega) (some q1) 0 0 (by omega) none 0 0 (by omega)
      · exact pAZ_any w a0 (by omega) (some q1) 0 0 (by omega) (some q2) 0 0 (by omega)
      · obtain ⟨r2, hr2, k2⟩ : ∃ r : RowD, r = ⟨nn2, bb2, oo2, cc2, zz2⟩ ∧ r.Ok w := ⟨_, rfl, ⟨x1_2, x2_2, x3_2, x4_2, x5_2⟩⟩
        have hv2 : Value.slice (some ⟨bb2, oo2, none⟩) nn2 cc2 = r2.v := by rw [hr2]; rfl
        rw [hv2]
        clear hr2 hv2 x1_2 x2_2 x3_2 x4_2 x5_2
        have mx2 : r2.n ≤ 9223372036854775807 := Nat.le_trans k2.le k2.mx
        exact pAZ_any w a0 (by omega) (some q1) 0 0 (by omega) _ r2.n r2.c (by omega) 
    · obtain ⟨r1, hr1, k1⟩ : ∃ r : RowD, r = ⟨nn1, bb1, oo1, cc1, zz1⟩ ∧ r.Ok w := ⟨_, rfl, ⟨x1_1, x2_1, x3_1, x4_1, x5_1⟩⟩
      have hv1 : Value.slice (some ⟨bb1, oo1, none⟩) nn1 cc1 = r1.v := by rw [hr1]; rfl
      rw [hv1]
      clear hr1 hv1 x1_1 x2_1 x3_1 x4_1 x5_1
      have mx1 : r1.n ≤ 9223372036854775807 := Nat.le_trans k1.le k1.mx
      have hc1 : (0 ≤ (r1.n : Int) ∧ (r1.n : Int) ≤ 0) ∨ (1 ≤ (r1.n : Int) ∧ (r1.n : Int) ≤ 1456) ∨ (1457 ≤ (r1.n : Int) ∧ (r1.n : Int) ≤ 1459) ∨ (1460 ≤ (r1.n : Int) ∧ (r1.n : Int) ≤ 1460) ∨ (1461 ≤ (r1.n : Int) ∧ (r1.n : Int) ≤ 2919) ∨ (2920 ≤ (r1.n : Int) ∧ (r1.n : Int) ≤ 2920) ∨ (2921 ≤ (r1.n : Int) ∧ (r1.n : Int) ≤ 4000) ∨ (4001 ≤ (r1.n : Int) ∧ (r1.n : Int) ≤ 9223372036854775807) := by omega
      rcases hc1 with hc1 | hc1 | hc1 | hc1 | hc1 | hc1 | hc1 | hc1
      · rcases v2_in with rfl | ⟨q2, rfl⟩ | ⟨bb2, oo2, nn2, cc2, zz2, rfl, x1_2, x2_2, x3_2, x4_2, x5_2⟩
        · exact pAZ_any w a0 (by omega) _ r1.n r1.c (by omega) none 0 0 (by omega)
        · exact pAZ_any w a0 (by omega) _ r1.n r1.c (by omega) (some q2) 0 0 (by omega)
        · obtain ⟨r2, hr2, k2⟩ : ∃ r : RowD, r = ⟨nn2, bb2, oo2, cc2, zz2⟩ ∧ r.Ok w := ⟨_, rfl, ⟨x1_2, x2_2, x3_2, x4_2, x5_2⟩⟩
          have hv2 : Value.slice (some ⟨bb2, oo2, none⟩) nn2 cc2 = r2.v := by rw [hr2]; rfl
          rw [hv2]
          clear hr2 hv2 x1_2 x2_2 x3_2 x4_2 x5_2
          have mx2 : r2.n ≤ 9223372036854775807 := Nat.le_trans k2.le k2.mx
          exact pAZ_any w a0 (by omega) _ r1.n r1.c (by omega) _ r2.n r2.c (by omega) 
      · rcases v2_in with rfl | ⟨q2, rfl⟩ | ⟨bb2, oo2, nn2, cc2, zz2, rfl, x1_2, x2_2, x3_2, x4_2, x5_2⟩
        · exact pBZ_any w a0 (by omega) _ r1.n r1.c (by omega) none 0 0 (by omega)
        · exact pBZ_any w a0 (by omega) _ r1.n r1.c (by omega) (some q2) 0 0 (by omega)
        · obtain ⟨r2, hr2, k2⟩ : ∃ r : RowD, r = ⟨nn2, bb2, oo2, cc2, zz2⟩ ∧ r.Ok w := ⟨_, rfl, ⟨x1_2, x2_2, x3_2, x4_2, x5_2⟩⟩
          have hv2 : Value.slice (some ⟨bb2, oo2, none⟩) nn2 cc2 = r2.v := by rw [hr2]; rfl
          rw [hv2]
          clear hr2 hv2 x1_2 x2_2 x3_2 x4_2 x5_2
          have mx2 : r2.n ≤ 9223372036854775807 := Nat.le_trans k2.le k2.mx
          have hc2 : (0 ≤ (r2.n : Int) ∧ (r2.n : Int) ≤ 0) ∨ (1 ≤ (r2.n : Int) ∧ (r2.n : Int) ≤ 1456) ∨ (1457 ≤ (r2.n : Int) ∧ (r2.n : Int) ≤ 1459) ∨ (1460 ≤ (r2.n : Int) ∧ (r2.n : Int) ≤ 1460) ∨ (1461 ≤ (r2.n : Int) ∧ (r2.n : Int) ≤ 2919) ∨ (2920 ≤ (r2.n : Int) ∧ (r2.n : Int) ≤ 2920) ∨ (2921 ≤ (r2.n : Int) ∧ (r2.n : Int) ≤ 4000) ∨ (4001 ≤ (r2.n : Int) ∧ (r2.n : Int) ≤ 9223372036854775807) := by omega
          rcases hc2 with hc2 | hc2 | hc2 | hc2 | hc2 | hc2 | hc2 | hc2
          · exact pBZ_any w a0 (by omega) _ r1.n r1.c (by omega) _ r2.n r2.c (by omega)
          · exact pM1a1a_any w a0 (by omega) r1 k1 (by omega) r2 k2 (by omega)
          · exact pM1a1b_any w a0 (by omega) r1 k1 (by omega) r2 k2 (by omega)
          · exact pM1a1c_any w a0 (by omega) r1 k1 (by omega) r2 k2 (by omega)
          · exact pM1a2a_any w a0 (by omega) r1 k1 (by omega) r2 k2 (by omega)
          · exact pM1a2c_any w a0 (by omega) r1 k1 (by omega) r2 k2 (by omega)
          · exact pM1a3a_any w a0 (by omega) r1 k1 (by omega) r2 k2 (by omega)
          · exact pBL_any w a0 (by omega) _ r1.n r1.c (by omega) _ r2.n r2.c (by omega)
      · rcases v2_in with rfl | ⟨q2, rfl⟩ | ⟨bb2, oo2, nn2, cc2, zz2, rfl, x1_2, x2_2, x3_2, x4_2, x5_2⟩
        · exact pBZ_any w a0 (by omega) _ r1.n r1.c (by omega) none 0 0 (by omega)
        · exact pBZ_any w a0 (by omega) _ r1.n r1.c (by omega) (some q2) 0 0 (by omega)
        · obtain ⟨r2, hr2, k2⟩ : ∃ r : RowD, r = ⟨nn2, bb2, oo2, cc2, zz2⟩ ∧ r.Ok w := ⟨_, rfl, ⟨x1_2, x2_2, x3_2, x4_2, x5_2⟩⟩
          have hv2 : Value.slice (some ⟨bb2, oo2, none⟩) nn2 cc2 = r2.v := by rw [hr2]; rfl
          rw [hv2]
          clear hr2 hv2 x1_2 x2_2 x3_2 x4_2 x5_2
          have mx2 : r2.n ≤ 9223372036854775807 := Nat.le_trans k2.le k2.mx
          have hc2 : (0 ≤ (r2.n : Int) ∧ (r2.n : Int) ≤ 0) ∨ (1 ≤ (r2.n : Int) ∧ (r2.n : Int) ≤ 1456) ∨ (1457 ≤ (r2.n : Int) ∧ (r2.n : Int) ≤ 1459) ∨ (1460 ≤ (r2.n : Int) ∧ (r2.n : Int) ≤ 1460) ∨ (1461 ≤ (r2.n : Int) ∧ (r2.n : Int) ≤ 2919) ∨ (2920 ≤ (r2.n : Int) ∧ (r2.n : Int) ≤ 2920) ∨ (2921 ≤ (r2.n : Int) ∧ (r2.n : Int) ≤ 4000) ∨ (4001 ≤ (r2.n : Int) ∧ (r2.n : Int) ≤ 9223372036854775807) := by omega
          rcases hc2 with hc2 | hc2 | hc2 | hc2 | hc2 | hc2 | hc2 | hc2
          · exact pBZ_any w a0 (by omega) _ r1.n r1.c (by omega) _ r2.n r2.c (by omega)
          · exact pM1b1a_any w a0 (by omega) r1 k1 (by omega) r2 k2 (by omega)
          · exact pM1b1b_any w a0 (by omega) r1 k1 (by omega) r2 k2 (by omega)
          · exact pM1b1c_any w a0 (by omega) r1 k1 (by omega) r2 k2 (by omega)
          · exact pM1b2a_any w a0 (by omega) r1 k1 (by omega) r2 k2 (by omega)
          · exact pM1b2c_any w a0 (by omega) r1 k1 (by omega) r2 k2 (by omega)
          · exact pM1b3a_any w a0 (by omega) r1 k1 (by omega) r2 k2 (by omega)
          · exact pBL_any w a0 (by omega) _ r1.n r1.c (by omega) _ r2.n r2.c (by omega)
      · rcases v2_in with rfl | ⟨q2, rfl⟩ | ⟨bb2, oo2, nn2, cc2, zz2, rfl, x1_2, x2_2, x3_2, x4_2, x5_2⟩
        · exact pBZ_any w a0 (by omega) _ r1.n r1.c (by omega) none 0 0 (by omega)
        · exact pBZ_any w a0 (by omega) _ r1.n r1.c (by omega) (some q2) 0 0 (by omega)
        · obtain ⟨r2, hr2, k2⟩ : ∃ r : RowD, r = ⟨nn2, bb2, oo2, cc2, zz2⟩ ∧ r.Ok w := ⟨_, rfl, ⟨x1_2, x2_2, x3_2, x4_2, x5_2⟩⟩
          have hv2 : Value.slice (some ⟨bb2, oo2, none⟩) nn2 cc2 = r2.v := by rw [hr2]; rfl
          rw [hv2]
          clear hr2 hv2 x1_2 x2_2 x3_2 x4_2 x5_2
          have mx2 : r2.n ≤ 9223372036854775807 := Nat.le_trans k2.le k2.mx
          have hc2 : (0 ≤ (r2.n : Int) ∧ (r2.n : Int) ≤ 0) ∨ (1 ≤ (r2.n : Int) ∧ (r2.n : Int) ≤ 1456) ∨ (1457 ≤ (r2.n : Int) ∧ (r2.n : Int) ≤ 1459) ∨ (1460 ≤ (r2.n : Int) ∧ (r2.n : Int) ≤ 1460) ∨ (1461 ≤ (r2.n : Int) ∧ (r2.n : Int) ≤ 2919) ∨ (2920 ≤ (r2.n : Int) ∧ (r2.n : Int) ≤ 2920) ∨ (2921 ≤ (r2.n : Int) ∧ (r2.n : Int) ≤ 4000) ∨ (4001 ≤ (r2.n : Int) ∧ (r2.n : Int) ≤ 9223372036854775807) := by omega
          rcases hc2 with hc2 | hc2 | hc2 | hc2 | hc2 | hc2 | hc2 | hc2
          · exact pBZ_any w a0 (by omega) _ r1.n r1.c (by omega) _ r2.n r2.c (by omega)
          · exact pM1c1a_any w a0 (by omega) r1 k1 (by omega) r2 k2 (by omega)
          · exact pM1c1b_any w a0 (by omega) r1 k1 (by omega) r2 k2 (by omega)
          · exact pM1c1c_any w a0 (by omega) r1 k1 (by omega) r2 k2 (by omega)
          · exact pM1c2a_any w a0 (by omega) r1 k1 (by omega) r2 k2 (by omega)
          · exact pM1c2c_any w a0 (by omega) r1 k1 (by omega) r2 k2 (by omega)
          · exact pM1c3a_any w a0 (by omega) r1 k1 (by omega) r2 k2 (by omega)
          · exact pBL_any w a0 (by omega) _ r1.n r1.c (by omega) _ r2.n r2.c (by omega)
      · rcases v2_in with rfl | ⟨q2, rfl⟩ | ⟨bb2, oo2, nn2, cc2, zz2, rfl, x1_2, x2_2, x3_2, x4_2, x5_2⟩
        · exact pBZ_any w a0 (by omega) _ r1.n r1.c (by omega) none 0 0 (by omega)
        · exact pBZ_any w a0 (by omega) _ r1.n r1.c (by omega) (some q2) 0 0 (by omega)
        · obtain ⟨r2, hr2, k2⟩ : ∃ r : RowD, r = ⟨nn2, bb2, oo2, cc2, zz2⟩ ∧ r.Ok w := ⟨_, rfl, ⟨x1_2, x2_2, x3_2, x4_2, x5_2⟩⟩
          have hv2 : Value.slice (some ⟨bb2, oo2, none⟩) nn2 cc2 = r2.v := by rw [hr2]; rfl
          rw [hv2]
          clear hr2 hv2 x1_2 x2_2 x3_2 x4_2 x5_2
          have mx2 : r2.n ≤ 9223372036854775807 := Nat.le_trans k2.le k2.mx
          have hc2 : (0 ≤ (r2.n : Int) ∧ (r2.n : Int) ≤ 0) ∨ (1 ≤ (r2.n : Int) ∧ (r2.n : Int) ≤ 1456) ∨ (1457 ≤ (r2.n : Int) ∧ (r2.n : Int) ≤ 1459) ∨ (1460 ≤ (r2.n : Int) ∧ (r2.n : Int) ≤ 1460) ∨ (1461 ≤ (r2.n : Int) ∧ (r2.n : Int) ≤ 2919) ∨ (2920 ≤ (r2.n : Int) ∧ (r2.n : Int) ≤ 2920) ∨ (2921 ≤ (r2.n : Int) ∧ (r2.n : Int) ≤ 4000) ∨ (4001 ≤ (r2.n : Int) ∧ (r2.n : Int) ≤ 9223372036854775807) := by omega
          rcases hc2 with hc2 | hc2 | hc2 | hc2 | hc2 | hc2 | hc2 | hc2
          · exact pBZ_any w a0 (by omega) _ r1.n r1.c (by omega) _ r2.n r2.c (by omega)
          · exact pM2a1a_any w a0 (by omega) r1 k1 (by omega) r2 k2 (by omega)
          · exact pM2a1b_any w a0 (by omega) r1 k1 (by omega) r2 k2 (by omega)
          · exact pM2a1c_any w a0 (by omega) r1 k1 (by omega) r2 k2 (by omega)
          · exact pM2a2a_any w a0 (by omega) r1 k1 (by omega) r2 k2 (by omega)
          · exact pM2a2c_any w a0 (by omega) r1 k1 (by omega) r2 k2 (by omega)
          · exact pM2a3a_any w a0 (by omega) r1 k1 (by omega) r2 k2 (by omega)
          · exact pBL_any w a0 (by omega) _ r1.n r1.c (by omega) _ r2.n r2.c (by omega)
      · rcases v2_in with rfl | ⟨q2, rfl⟩ | ⟨bb2, oo2, nn2, cc2, zz2, rfl, x1_2, x2_2, x3_2, x4_2, x5_2⟩
        · exact pBZ_any w a0 (by omega) _ r1.n r1.c (by omega) none 0 0 (by omega)
        · exact pBZ_any w a0 (by omega) _ r1.n r1.c (by omega) (some q2) 0 0 (by omega)
        · obtain ⟨r2, hr2, k2⟩ : ∃ r : RowD, r = ⟨nn2, bb2, oo2, cc2, zz2⟩ ∧ r.Ok w := ⟨_, rfl, ⟨x1_2, x2_2, x3_2, x4_2, x5_2⟩⟩
          have hv2 : Value.slice (some ⟨bb2, oo2, none⟩) nn2 cc2 = r2.v := by rw [hr2]; rfl
          rw [hv2]
          clear hr2 hv2 x1_2 x2_2 x3_2 x4_2 x5_2
          have mx2 : r2.n ≤ 9223372036854775807 := Nat.le_trans k2.le k2.mx
          have hc2 : (0 ≤ (r2.n : Int) ∧ (r2.n : Int) ≤ 0) ∨ (1 ≤ (r2.n : Int) ∧ (r2.n : Int) ≤ 1456) ∨ (1457 ≤ (r2.n : Int) ∧ (r2.n : Int) ≤ 1459) ∨ (1460 ≤ (r2.n : Int) ∧ (r2.n : Int) ≤ 1460) ∨ (1461 ≤ (r2.n : Int) ∧ (r2.n : Int) ≤ 2919) ∨ (2920 ≤ (r2.n : Int) ∧ (r2.n : Int) ≤ 2920) ∨ (2921 ≤ (r2.n : Int) ∧ (r2.n : Int) ≤ 4000) ∨ (4001 ≤ (r2.n : Int) ∧ (r2.n : Int) ≤ 9223372036854775807) := by omega
          rcases hc2 with hc2 | hc2 | hc2 | hc2 | hc2 | hc2 | hc2 | hc2
          · exact pBZ_any w a0 (by omega) _ r1.n r1.c (by omega) _ r2.n r2.c (by omega)
          · exact pM2c1a_any w a0 (by omega) r1 k1 (by omega) r2 k2 (by omega)
          · exact pM2c1b_any w a0 (by omega) r1 k1 (by omega) r2 k2 (by omega)
          · exact pM2c1c_any w a0 (by omega) r1 k1 (by omega) r2 k2 (by omega)
          · exact pM2c2a_any w a0 (by omega) r1 k1 (by omega) r2 k2 (by omega)
          · exact pM2c2c_any w a0 (by omega) r1 k1 (by omega) r2 k2 (by omega)
          · exact pM2c3a_any w a0 (by omega) r1 k1 (by omega) r2 k2 (by omega)
          · exact pBL_any w a0 (by omega) _ r1.n r1.c (by omega) _ r2.n r2.c (by omega)
      · rcases v2_in with rfl | ⟨q2, rfl⟩ | ⟨bb2, oo2, nn2, cc2, zz2, rfl, x1_2, x2_2, x3_2, x4_2, x5_2⟩
        · exact pBZ_any w a0 (by omega) _ r1.n r1.c (by omega) none 0 0 (by omega)
        · exact pBZ_any w a0 (by omega) _ r1.n r1.c (by omega) (some q2) 0 0 (by omega)
        · obtain ⟨r2, hr2, k2⟩ : ∃ r : RowD, r = ⟨nn2, bb2, oo2, cc2, zz2⟩ ∧ r.Ok w := ⟨_, rfl, ⟨x1_2, x2_2, x3_2, x4_2, x5_2⟩⟩
          have hv2 : Value.slice (some ⟨bb2, oo2, none⟩) nn2 cc2 = r2.v := by rw [hr2]; rfl
          rw [hv2]
          clear hr2 hv2 x1_2 x2_2 x3_2 x4_2 x5_2
          have mx2 : r2.n ≤ 9223372036854775807 := Nat.le_trans k2.le k2.mx
          have hc2 : (0 ≤ (r2.n : Int) ∧ (r2.n : Int) ≤ 0) ∨ (1 ≤ (r2.n : Int) ∧ (r2.n : Int) ≤ 1456) ∨ (1457 ≤ (r2.n : Int) ∧ (r2.n : Int) ≤ 1459) ∨ (1460 ≤ (r2.n : Int) ∧ (r2.n : Int) ≤ 1460) ∨ (1461 ≤ (r2.n : Int) ∧ (r2.n : Int) ≤ 2919) ∨ (2920 ≤ (r2.n : Int) ∧ (r2.n : Int) ≤ 2920) ∨ (2921 ≤ (r2.n : Int) ∧ (r2.n : Int) ≤ 4000) ∨ (4001 ≤ (r2.n : Int) ∧ (r2.n : Int) ≤ 9223372036854775807) := by omega
          rcases hc2 with hc2 | hc2 | hc2 | hc2 | hc2 | hc2 | hc2 | hc2
          · exact pBZ_any w a0 (by omega) _ r1.n r1.c (by omega) _ r2.n r2.c (by omega)
          · exact pM3a1a_any w a0 (by omega) r1 k1 (by omega) r2 k2 (by omega)
          · exact pM3a1b_any w a0 (by omega) r1 k1 (by omega) r2 k2 (by omega)
          · exact pM3a1c_any w a0 (by omega) r1 k1 (by omega) r2 k2 (by omega)
          · exact pM3a2a_any w a0 (by omega) r1 k1 (by omega) r2 k2 (by omega)
          · exact pM3a2c_any w a0 (by omega) r1 k1 (by omega) r2 k2 (by omega)
          · exact pM3a3a_any w a0 (by omega) r1 k1 (by omega) r2 k2 (by omega)
          · exact pBL_any w a0 (by omega) _ r1.n r1.c (by omega) _ r2.n r2.c (by omega)
      · rcases v2_in with rfl | ⟨q2, rfl⟩ | ⟨bb2, oo2, nn2, cc2, zz2, rfl, x1_2, x2_2, x3_2, x4_2, x5_2⟩
        · exact pAL_any w a0 (by omega) _ r1.n r1.c (by omega) none 0 0 (by omega)
        · exact pAL_any w a0 (by omega) _ r1.n r1.c (by omega) (some q2) 0 0 (by omega)
        · obtain ⟨r2, hr2, k2⟩ : ∃ r : RowD, r = ⟨nn2, bb2, oo2, cc2, zz2⟩ ∧ r.Ok w := ⟨_, rfl, ⟨x1_2, x2_2, x3_2, x4_2, x5_2⟩⟩
          have hv2 : Value.slice (some ⟨bb2, oo2, none⟩) nn2 cc2 = r2.v := by rw [hr2]; rfl
          rw [hv2]
          clear hr2 hv2 x1_2 x2_2 x3_2 x4_2 x5_2
          have mx2 : r2.n ≤ 9223372036854775807 := Nat.le_trans k2.le k2.mx
          exact pAL_any w a0 (by omega) _ r1.n r1.c (by omega) _ r2.n r2.c (by omega) 
  · rcases v1_in with rfl | ⟨q1, rfl⟩ | ⟨bb1, oo1, nn1, cc1, zz1, rfl, x1_1, x2_1, x3_1, x4_1, x5_1⟩
    · rcases v2_in with rfl | ⟨q2, rfl⟩ | ⟨bb2, oo2, nn2, cc2, zz2, rfl, x1_2, x2_2, x3_2, x4_2, x5_2⟩
      · exact pPH_any w a0 (by omega) none 0 0 (by omega) none 0 0 (by omega)
      · exact pPH_any w a0 (by omega) none 0 0 (by omega) (some q2) 0 0 (by omega)
      · obtain ⟨r2, hr2, k2⟩ : ∃ r : RowD, r = ⟨nn2, bb2, oo2, cc2, zz2⟩ ∧ r.Ok w := ⟨_, rfl, ⟨x1_2, x2_2, x3_2, x4_2, x5_2⟩⟩
        have hv2 : Value.slice (some ⟨bb2, oo2, none⟩) nn2 cc2 = r2.v := by rw [hr2]; rfl
        rw [hv2]
        clear hr2 hv2 x1_2 x2_2 x3_2 x4_2 x5_2
        have mx2 : r2.n ≤ 9223372036854775807 := Nat.le_trans k2.le k2.mx
        exact pPH_any w a0 (by omega) none 0 0 (by omega) _ r2.n r2.c (by omega) 
    · rcases v2_in with rfl | ⟨q2, rfl⟩ | ⟨bb2, oo2, nn2, cc2, zz2, rfl, x1_2, x2_2, x3_2, x4_2, x5_2⟩
      · exact pPH_any w a0 (by omega) (some q1) 0 0 (by omega) none 0 0 (by omega)
      · exact pPH_any w a0 (by omega) (some q1) 0 0 (by omega) (some q2) 0 0 (by omega)
      · obtain ⟨r2, hr2, k2⟩ : ∃ r : RowD, r = ⟨nn2, bb2, oo2, cc2, zz2⟩ ∧ r.Ok w := ⟨_, rfl, ⟨x1_2, x2_2, x3_2, x4_2, x5_2⟩⟩
        have hv2 : Value.slice (some ⟨bb2, oo2, none⟩) nn2 cc2 = r2.v := by rw [hr2]; rfl
        rw [hv2]
        clear hr2 hv2 x1_2 x2_2 x3_2 x4_2 x5_2
        have mx2 : r2.n ≤ 9223372036854775807 := Nat.le_trans k2.le k2.mx
        exact pPH_any w a0 (by omega) (some q1) 0 0 (by omega) _ r2.n r2.c (by omega) 
    · obtain ⟨r1, hr1, k1⟩ : ∃ r : RowD, r = ⟨nn1, bb1, oo1, cc1, zz1⟩ ∧ r.Ok w := ⟨_, rfl, ⟨x1_1, x2_1, x3_1, x4_1, x5_1⟩⟩
      have hv1 : Value.slice (some ⟨bb1, oo1, none⟩) nn1 cc1 = r1.v := by rw [hr1]; rfl
      rw [hv1]
      clear hr1 hv1 x1_1 x2_1 x3_1 x4_1 x5_1
      have mx1 : r1.n ≤ 9223372036854775807 := Nat.le_trans k1.le k1.mx
      rcases v2_in with rfl | ⟨q2, rfl⟩ | ⟨bb2, oo2, nn2, cc2, zz2, rfl, x1_2, x2_2, x3_2, x4_2, x5_2⟩
      · exact pPH_any w a0 (by omega) _ r1.n r1.c (by omega) none 0 0 (by omega)
      · exact pPH_any w a0 (by omega) _ r1.n r1.c (by omega) (some q2) 0 0 (by omega)
      · obtain ⟨r2, hr2, k2⟩ : ∃ r : RowD, r = ⟨nn2, bb2, oo2, cc2, zz2⟩ ∧ r.Ok w := ⟨_, rfl, ⟨x1_2, x2_2, x3_2, x4_2, x5_2⟩⟩
        have hv2 : Value.slice (some ⟨bb2, oo2, none⟩) nn2 cc2 = r2.v := by rw [hr2]; rfl
        rw [hv2]
        clear hr2 hv2 x1_2 x2_2 x3_2 x4_2 x5_2
        have mx2 : r2.n ≤ 9223372036854775807 := Nat.le_trans k2.le k2.mx
        exact pPH_any w a0 (by omega) _ r1.n r1.c (by omega) _ r2.n r2.c (by omega) 

set_option maxRecDepth 100000 in
theorem lifted (os : Os) (started : os.Started) (H : Type) (enc : TypeId × Value → H) :
    ReturnsInHanded {} Tryz.checked os 6 .any (Rows.worldBothSpec.pre6 enc Tryz.prog Tryz.f6 Rows.worldBothRow.domain false) (Rows.worldBothSpec.post enc Tryz.prog Tryz.f6 false true false false) := by
  refine returnsInHanded_of_change (C := Tryz.checked) own started (by kernel_rfl) Tryz.func6
    (ChangeSpec.witness6 (enc := enc) (C := Tryz.checked) false ⟨#[], #[.int .i64 0, .slice none 0 0, .slice none 0 0], []⟩ 8 (by kernel_rfl) (by kernel_rfl) (by kernel_rfl) (by kernel_rfl)) ?_
  intro W base args ds gs before hval0 hW hcnd _
  have hval : ∀ (j : Nat) t v, Tryz.f6.params[j]? = some t → args[j]? = some v → Value.okWide Tryz.prog W .any base t v := hval0
  have hW' := hW
  obtain ⟨p, q, hA0, hV, rfl, hfz, hnd⟩ := hW
  have hA : DataW.TrodAll enc Tryz.prog W 0 (fun _ => true) true Tryz.f6.params.toList args.toList ds p := hA0
  rw [Tryz.params6] at hA hval
  obtain ⟨v0, vs0, d0, ds0, p_0, q0, hargs, rfl, rfl, k0, r0⟩ := trodAll_cons hA
  obtain ⟨v1, vs1, d1, ds1, p_1, q1, rfl, rfl, rfl, k1, r1⟩ := trodAll_cons r0
  obtain ⟨v2, vs2, d2, ds2, p_2, q2, rfl, rfl, rfl, k2, r2⟩ := trodAll_cons r1
  obtain ⟨rfl, rfl, rfl⟩ := trodAll_nil r2
  obtain rfl : args = #[v0, v1, v2] := by cases args; simp_all
  obtain ⟨rfl, rfl⟩ := trodVars_none hV
  have lt0 : ∀ x ∈ p_0, x.block < W.heap.size := by obtain ⟨m, hm⟩ := k0; exact DataW.trod_lt m _ _ _ hm
  have lt1 : ∀ x ∈ p_1, x.block < W.heap.size := by obtain ⟨m, hm⟩ := k1; exact DataW.trod_lt m _ _ _ hm
  have lt2 : ∀ x ∈ p_2, x.block < W.heap.size := by obtain ⟨m, hm⟩ := k2; exact DataW.trod_lt m _ _ _ hm
  obtain ⟨a0, rfl, hh0⟩ := open_int (hval 0 3 v0 rfl rfl)
  have hrow1 : RowIn W v1 := by
    obtain ⟨fuel, hf⟩ := k1
    obtain ⟨a0, len0, cap0, rfl⟩ := okWide_slice Tryz.underlying22 (hval 1 22 v1 rfl rfl)
    exact open_row Tryz.underlying22 Tryz.underlying5 (by kernel_rfl) hf
  have hrow2 : RowIn W v2 := by
    obtain ⟨fuel, hf⟩ := k2
    obtain ⟨a0, len0, cap0, rfl⟩ := okWide_slice Tryz.underlying22 (hval 2 22 v2 rfl rfl)
    exact open_row Tryz.underlying22 Tryz.underlying5 (by kernel_rfl) hf
  clear hA0 hval0
  refine (walk W a0 hh0 _ hrow1 _ hrow2).mono fun e W' ⟨he, hg⟩ => ?_
  subst he
  have bel := hg.below0
  exact ⟨_, rfl, _, _, _, [], _, [], hW', trodAll_mk1 (shut_bool Tryz.underlying4 _), (trodAll_cons_mk (Below.trod laid_out (by kernel_rfl) (of_decide_eq_true (by kernel_rfl)) k0 bel lt0) (trodAll_cons_mk (Below.trod laid_out (by kernel_rfl) (of_decide_eq_true (by kernel_rfl)) k1 bel lt1) (trodAll_cons_mk (Below.trod laid_out (by kernel_rfl) (of_decide_eq_true (by kernel_rfl)) k2 bel lt2) trodAll_mk0))), rfl, bel.frame _, fun h => by cases h⟩

theorem over : Rows.worldBothRow.holds Tryz.pinned (OpenSpec.ofChange Rows.worldBothSpec) :=
  OpenClaim.holds_of_wide 6 Tryz.f6 rfl rfl rfl rfl rfl rfl rfl ⟨rfl, rfl, rfl, rfl, rfl⟩ rfl rfl rfl rfl rfl j_func Tryz.func6 joined
    (of_decide_eq_true (by kernel_rfl)) (by unfold Func.isWrapper; first | (rw [if_pos (by decide +kernel)]; kernel_rfl) | (rw [if_neg (by decide +kernel)]; exact ⟨rfl, rfl⟩))
    (fun os started H enc _ => lifted os started H enc)

theorem proved : Rows.WorldBothSaid := over
end Go.Proofs.YtfomfboennjfoaaGreat.worldBoth

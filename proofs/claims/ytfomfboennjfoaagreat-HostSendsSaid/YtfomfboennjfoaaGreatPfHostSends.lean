/-
  A datagram to a neighbour that is not known waits while it is asked for, and comes as it was, in pieces if it is long (wharflaw19.HostSends). No condition.
-/
import Derived.Test.YtfomfboennjfoaaGreatRows
import Derived.WalkKit
import Derived.ProofKit
import Derived.OpenShut
import Derived.Below
import Derived.Test.YtfomfboennjfoaaGreatPaHostSendsQ0
import Derived.Test.YtfomfboennjfoaaGreatPaHostSendsQ1
import Derived.Test.YtfomfboennjfoaaGreatPaHostSendsQ2
import Derived.Test.YtfomfboennjfoaaGreatPaHostSendsQ3
import Derived.Test.YtfomfboennjfoaaGreatPaHostSendsQ4
import Derived.Test.YtfomfboennjfoaaGreatPaHostSendsQ5
import Derived.Test.YtfomfboennjfoaaGreatPaHostSendsQ6
import Derived.Test.YtfomfboennjfoaaGreatPaHostSendsQ7
import Derived.Test.YtfomfboennjfoaaGreatPaHostSendsQ8
import Derived.Test.YtfomfboennjfoaaGreatJfHostSends
namespace Go.Proofs.YtfomfboennjfoaaGreat.hostSends
open Go.ChangeShapes Go.WideShapes Go.ChangeAt Go.RowKit
open Go
set_option linter.unusedVariables false
set_option linter.unusedSimpArgs false

theorem own : ownKnob Tryz.prog.godebug = none := by kernel_rfl
section
variable {P : Program} {w : World} {r : Reach} {base : Nat} {t : TypeId} {v : Value}
theorem cell_int {k : IntKind} (ht : P.underlying t = some (.int k)) (h : Cell.okWide P w r base t v) : ∃ n, v = .int k n ∧ k.min ≤ n ∧ n ≤ k.max := by
  simp only [Cell.okWide, ht] at h
  cases v <;> simp_all [Cell.ok, IntKind.has]
theorem cell_bool (ht : P.underlying t = some .bool) (h : Cell.okWide P w r base t v) : ∃ b, v = .bool b := by
  simp only [Cell.okWide, ht] at h
  cases v <;> simp_all [Cell.ok]
theorem cell_slice {e : TypeId} (ht : P.underlying t = some (.slice e)) (h : Cell.okWide P w r base t v) : ∃ a n c, v = .slice a n c := by
  simp only [Cell.okWide, ht] at h
  cases v <;> simp_all [Cell.ok]
end
theorem in_i64 {n : Int} (h : IntKind.i64.min ≤ n ∧ n ≤ IntKind.i64.max) : (-9223372036854775808) ≤ n ∧ n ≤ 9223372036854775807 := by
  rw [show IntKind.i64.min = (-9223372036854775808) by decide, show IntKind.i64.max = 9223372036854775807 by decide] at h
  exact h
set_option maxRecDepth 100000 in
theorem open_int {W : World} {base : Nat} {v : Value} (h : Value.okWide Tryz.prog W .any base 3 v) : ∃ (a0 : Int), v = .int .i64 a0 ∧ ((-9223372036854775808) ≤ a0 ∧ a0 ≤ 9223372036854775807) := by
    simp only [Value.okWide, Tryz.underlying3] at h
    obtain ⟨a0, rfl, h0⟩ := cell_int Tryz.underlying3 h
    have h0 := in_i64 h0
    exact ⟨_, rfl, h0⟩

theorem walk (w : World) (v0 : Value) (v0_in : RowIn w v0) (v1 : Value) (v1_in : RowIn w v1) (a2 : Int) (h2 : ((-9223372036854775808) ≤ a2 ∧ a2 ≤ 9223372036854775807)) : Calls Tryz.prog 3 #[v0, v1, .int .i64 a2] w fun e w' => e = .returned (.bool true) ∧ Kp [] w w' := by
  rcases v0_in with rfl | ⟨q0, rfl⟩ | ⟨bb0, oo0, nn0, cc0, zz0, rfl, x1_0, x2_0, x3_0, x4_0, x5_0⟩
  · rcases v1_in with rfl | ⟨q1, rfl⟩ | ⟨bb1, oo1, nn1, cc1, zz1, rfl, x1_1, x2_1, x3_1, x4_1, x5_1⟩
    · have hc2 : ((-9223372036854775808) ≤ a2 ∧ a2 ≤ 0) ∨ (1 ≤ a2 ∧ a2 ≤ 65535) ∨ (65536 ≤ a2 ∧ a2 ≤ 9223372036854775807) := by omega
      clear h2
      rcases hc2 with h2 | h2 | h2
      · exact pPL_any w none 0 0 (by omega) none 0 0 (by omega) a2 (by omega)
      · exact pZ0_any w none 0 0 (by omega) none 0 0 (by omega) a2 (by omega)
      · exact pPH_any w none 0 0 (by omega) none 0 0 (by omega) a2 (by omega)
    · have hc2 : ((-9223372036854775808) ≤ a2 ∧ a2 ≤ 0) ∨ (1 ≤ a2 ∧ a2 ≤ 65535) ∨ (65536 ≤ a2 ∧ a2 ≤ 9223372036854775807) := by omega
      clear h2
      rcases hc2 with h2 | h2 | h2
      · exact pPL_any w none 0 0 (by omega) (some q1) 0 0 (by omega) a2 (by omega)
      · exact pZ0_any w none 0 0 (by omega) (some q1) 0 0 (by omega) a2 (by omega)
      · exact pPH_any w none 0 0 (by omega) (some q1) 0 0 (by omega) a2 (by omega)
    · obtain ⟨r1, hr1, k1⟩ : ∃ r : RowD, r = ⟨nn1, bb1, oo1, cc1, zz1⟩ ∧ r.Ok w := ⟨_, rfl, ⟨x1_1, x2_1, x3_1, x4_1, x5_1⟩⟩
      have hv1 : Value.slice (some ⟨bb1, oo1, none⟩) nn1 cc1 = r1.v := by rw [hr1]; rfl
      rw [hv1]
      clear hr1 hv1 x1_1 x2_1 x3_1 x4_1 x5_1
      have mx1 : r1.n ≤ 9223372036854775807 := Nat.le_trans k1.le k1.mx
      have hc1 : (0 ≤ (r1.n : Int) ∧ (r1.n : Int) ≤ 0) ∨ (1 ≤ (r1.n : Int) ∧ (r1.n : Int) ≤ 1472) ∨ (1473 ≤ (r1.n : Int) ∧ (r1.n : Int) ≤ 2952) ∨ (2953 ≤ (r1.n : Int) ∧ (r1.n : Int) ≤ 4432) ∨ (4433 ≤ (r1.n : Int) ∧ (r1.n : Int) ≤ 5912) ∨ (5913 ≤ (r1.n : Int) ∧ (r1.n : Int) ≤ 7392) ∨ (7393 ≤ (r1.n : Int) ∧ (r1.n : Int) ≤ 8872) ∨ (8873 ≤ (r1.n : Int) ∧ (r1.n : Int) ≤ 10352) ∨ (10353 ≤ (r1.n : Int) ∧ (r1.n : Int) ≤ 11832) ∨ (11833 ≤ (r1.n : Int) ∧ (r1.n : Int) ≤ 13312) ∨ (13313 ≤ (r1.n : Int) ∧ (r1.n : Int) ≤ 14792) ∨ (14793 ≤ (r1.n : Int) ∧ (r1.n : Int) ≤ 16272) ∨ (16273 ≤ (r1.n : Int) ∧ (r1.n : Int) ≤ 17752) ∨ (17753 ≤ (r1.n : Int) ∧ (r1.n : Int) ≤ 19232) ∨ (19233 ≤ (r1.n : Int) ∧ (r1.n : Int) ≤ 20000) ∨ (20001 ≤ (r1.n : Int) ∧ (r1.n : Int) ≤ 9223372036854775807) := by omega
      rcases hc1 with hc1 | hc1 | hc1 | hc1 | hc1 | hc1 | hc1 | hc1 | hc1 | hc1 | hc1 | hc1 | hc1 | hc1 | hc1 | hc1
      · have hc2 : ((-9223372036854775808) ≤ a2 ∧ a2 ≤ 0) ∨ (1 ≤ a2 ∧ a2 ≤ 65535) ∨ (65536 ≤ a2 ∧ a2 ≤ 9223372036854775807) := by omega
        clear h2
        rcases hc2 with h2 | h2 | h2
        · exact pPL_any w none 0 0 (by omega) _ r1.n r1.c (by omega) a2 (by omega)
        · exact pZ0_any w none 0 0 (by omega) _ r1.n r1.c (by omega) a2 (by omega)
        · exact pPH_any w none 0 0 (by omega) _ r1.n r1.c (by omega) a2 (by omega)
      · have hc2 : ((-9223372036854775808) ≤ a2 ∧ a2 ≤ 0) ∨ (1 ≤ a2 ∧ a2 ≤ 65535) ∨ (65536 ≤ a2 ∧ a2 ≤ 9223372036854775807) := by omega
        clear h2
        rcases hc2 with h2 | h2 | h2
        · exact pPL_any w none 0 0 (by omega) _ r1.n r1.c (by omega) a2 (by omega)
        · exact pZ1_any w none 0 0 (by omega) r1 k1 (by omega) a2 (by omega)
        · exact pPH_any w none 0 0 (by omega) _ r1.n r1.c (by omega) a2 (by omega)
      · have hc2 : ((-9223372036854775808) ≤ a2 ∧ a2 ≤ 0) ∨ (1 ≤ a2 ∧ a2 ≤ 65535) ∨ (65536 ≤ a2 ∧ a2 ≤ 9223372036854775807) := by omega
        clear h2
        rcases hc2 with h2 | h2 | h2
        · exact pPL_any w none 0 0 (by omega) _ r1.n r1.c (by omega) a2 (by omega)
        · exact pZ2_any w none 0 0 (by omega) r1 k1 (by omega) a2 (by omega)
        · exact pPH_any w none 0 0 (by omega) _ r1.n r1.c (by omega) a2 (by omega)
      · have hc2 : ((-9223372036854775808) ≤ a2 ∧ a2 ≤ 0) ∨ (1 ≤ a2 ∧ a2 ≤ 65535) ∨ (65536 ≤ a2 ∧ a2 ≤ 9223372036854775807) := by omega
        clear h2
        rcases hc2 with h2 | h2 | h2
        · exact pPL_any w none 0 0 (by omega) _ r1.n r1.c (by omega) a2 (by omega)
        · exact pZ3_any w none 0 0 (by omega) r1 k1 (by omega) a2 (by omega)
        · exact pPH_any w none 0 0 (by omega) _ r1.n r1.c (by omega) a2 (by omega)
      · have hc2 : ((-9223372036854775808) ≤ a2 ∧ a2 ≤ 0) ∨ (1 ≤ a2 ∧ a2 ≤ 65535) ∨ (65536 ≤ a2 ∧ a2 ≤ 9223372036854775807) := by omega
        clear h2
        rcases hc2 with h2 | h2 | h2
        · exact pPL_any w none 0 0 (by omega) _ r1.n r1.c (by omega) a2 (by omega)
        · exact pZ4_any w none 0 0 (by omega) r1 k1 (by omega) a2 (by omega)
        · exact pPH_any w none 0 0 (by omega) _ r1.n r1.c (by omega) a2 (by omega)
      · have hc2 : ((-9223372036854775808) ≤ a2 ∧ a2 ≤ 0) ∨ (1 ≤ a2 ∧ a2 ≤ 65535) ∨ (65536 ≤ a2 ∧ a2 ≤ 9223372036854775807) := by omega
        clear h2
        rcases hc2 with h2 | h2 | h2
        · exact pPL_any w none 0 0 (by omega) _ r1.n r1.c (by omega) a2 (by omega)
        · exact pZ5_any w none 0 0 (by omega) r1 k1 (by omega) a2 (by omega)
        · exact pPH_any w none 0 0 (by omega) _ r1.n r1.c (by omega) a2 (by omega)
      · have hc2 : ((-9223372036854775808) ≤ a2 ∧ a2 ≤ 0) ∨ (1 ≤ a2 ∧ a2 ≤ 65535) ∨ (65536 ≤ a2 ∧ a2 ≤ 9223372036854775807) := by omega
        clear h2
        rcases hc2 with h2 | h2 | h2
        · exact pPL_any w none 0 0 (by omega) _ r1.n r1.c (by omega) a2 (by omega)
        · exact pZ6_any w none 0 0 (by omega) r1 k1 (by omega) a2 (by omega)
        · exact pPH_any w none 0 0 (by omega) _ r1.n r1.c (by omega) a2 (by omega)
      · have hc2 : ((-9223372036854775808) ≤ a2 ∧ a2 ≤ 0) ∨ (1 ≤ a2 ∧ a2 ≤ 65535) ∨ (65536 ≤ a2 ∧ a2 ≤ 9223372036854775807) := by omega
        clear h2
        rcases hc2 with h2 | h2 | h2
        · exact pPL_any w none 0 0 (by omega) _ r1.n r1.c (by omega) a2 (by omega)
        · exact pZ7_any w none 0 0 (by omega) r1 k1 (by omega) a2 (by omega)
        · exact pPH_any w none 0 0 (by omega) _ r1.n r1.c (by omega) a2 (by omega)
      · have hc2 : ((-9223372036854775808) ≤ a2 ∧ a2 ≤ 0) ∨ (1 ≤ a2 ∧ a2 ≤ 65535) ∨ (65536 ≤ a2 ∧ a2 ≤ 9223372036854775807) := by omega
        clear h2
        rcases hc2 with h2 | h2 | h2
        · exact pPL_any w none 0 0 (by omega) _ r1.n r1.c (by omega) a2 (by omega)
        · exact pZ8_any w none 0 0 (by omega) r1 k1 (by omega) a2 (by omega)
        · exact pPH_any w none 0 0 (by omega) _ r1.n r1.c (by omega) a2 (by omega)
      · have hc2 : ((-9223372036854775808) ≤ a2 ∧ a2 ≤ 0) ∨ (1 ≤ a2 ∧ a2 ≤ 65535) ∨ (65536 ≤ a2 ∧ a2 ≤ 9223372036854775807) := by omega
        clear h2
        rcases hc2 with h2 | h2 | h2
        · exact pPL_any w none 0 0 (by omega) _ r1.n r1.c (by omega) a2 (by omega)
        · exact pZ9_any w none 0 0 (by omega) r1 k1 (by omega) a2 (by omega)
        · exact pPH_any w none 0 0 (by omega) _ r1.n r1.c (by omega) a2 (by omega)
      · have hc2 : ((-9223372036854775808) ≤ a2 ∧ a2 ≤ 0) ∨ (1 ≤ a2 ∧ a2 ≤ 65535) ∨ (65536 ≤ a2 ∧ a2 ≤ 9223372036854775807) := by omega
        clear h2
        rcases hc2 with h2 | h2 | h2
        · exact pPL_any w none 0 0 (by omega) _ r1.n r1.c (by omega) a2 (by omega)
        · exact pZ10_any w none 0 0 (by omega) r1 k1 (by omega) a2 (by omega)
        · exact pPH_any w none 0 0 (by omega) _ r1.n r1.c (by omega) a2 (by omega)
      · have hc2 : ((-9223372036854775808) ≤ a2 ∧ a2 ≤ 0) ∨ (1 ≤ a2 ∧ a2 ≤ 65535) ∨ (65536 ≤ a2 ∧ a2 ≤ 9223372036854775807) := by omega
        clear h2
        rcases hc2 with h2 | h2 | h2
        · exact pPL_any w none 0 0 (by omega) _ r1.n r1.c (by omega) a2 (by omega)
        · exact pZ11_any w none 0 0 (by omega) r1 k1 (by omega) a2 (by omega)
        · exact pPH_any w none 0 0 (by omega) _ r1.n r1.c (by omega) a2 (by omega)
      · have hc2 : ((-9223372036854775808) ≤ a2 ∧ a2 ≤ 0) ∨ (1 ≤ a2 ∧ a2 ≤ 65535) ∨ (65536 ≤ a2 ∧ a2 ≤ 9223372036854775807) := by omega
        clear h2
        rcases hc2 with h2 | h2 | h2
        · exact pPL_any w none 0 0 (by omega) _ r1.n r1.c (by omega) a2 (by omega)
        · exact pZ12_any w none 0 0 (by omega) r1 k1 (by omega) a2 (by omega)
        · exact pPH_any w none 0 0 (by omega) _ r1.n r1.c (by omega) a2 (by omega)
      · have hc2 : ((-9223372036854775808) ≤ a2 ∧ a2 ≤ 0) ∨ (1 ≤ a2 ∧ a2 ≤ 65535) ∨ (65536 ≤ a2 ∧ a2 ≤ 9223372036854775807) := by omega
        clear h2
        rcases hc2 with h2 | h2 | h2
        · exact pPL_any w none 0 0 (by omega) _ r1.n r1.c (by omega) a2 (by omega)
        · exact pZ13_any w none 0 0 (by omega) r1 k1 (by omega) a2 (by omega)
        · exact pPH_any w none 0 0 (by omega) _ r1.n r1.c (by omega) a2 (by omega)
      · have hc2 : ((-9223372036854775808) ≤ a2 ∧ a2 ≤ 0) ∨ (1 ≤ a2 ∧ a2 ≤ 65535) ∨ (65536 ≤ a2 ∧ a2 ≤ 9223372036854775807) := by omega
        clear h2
        rcases hc2 with h2 | h2 | h2
        · exact pPL_any w none 0 0 (by omega) _ r1.n r1.c (by omega) a2 (by omega)
        · exact pZ14_any w none 0 0 (by omega) r1 k1 (by omega) a2 (by omega)
        · exact pPH_any w none 0 0 (by omega) _ r1.n r1.c (by omega) a2 (by omega)
      · exact pLD_any w none 0 0 (by omega) _ r1.n r1.c (by omega) a2 (by omega)
  · rcases v1_in with rfl | ⟨q1, rfl⟩ | ⟨bb1, oo1, nn1, cc1, zz1, rfl, x1_1, x2_1, x3_1, x4_1, x5_1⟩
    · have hc2 : ((-9223372036854775808) ≤ a2 ∧ a2 ≤ 0) ∨ (1 ≤ a2 ∧ a2 ≤ 65535) ∨ (65536 ≤ a2 ∧ a2 ≤ 9223372036854775807) := by omega
      clear h2
      rcases hc2 with h2 | h2 | h2
      · exact pPL_any w (some q0) 0 0 (by omega) none 0 0 (by omega) a2 (by omega)
      · exact pZ0_any w (some q0) 0 0 (by omega) none 0 0 (by omega) a2 (by omega)
      · exact pPH_any w (some q0) 0 0 (by omega) none 0 0 (by omega) a2 (by omega)
    · have hc2 : ((-9223372036854775808) ≤ a2 ∧ a2 ≤ 0) ∨ (1 ≤ a2 ∧ a2 ≤ 65535) ∨ (65536 ≤ a2 ∧ a2 ≤ 9223372036854775807) := by omega
      clear h2
      rcases hc2 with h2 | h2 | h2
      · exact pPL_any w (some q0) 0 0 (by omega) (some q1) 0 0 (by omega) a2 (by omega)
      · exact pZ0_any w (some q0) 0 0 (by omega) (some q1) 0 0 (by omega) a2 (by omega)
      · exact pPH_any w (some q0) 0 0 (by omega) (some q1) 0 0 (by omega) a2 (by omega)
    · obtain ⟨r1, hr1, k1⟩ : ∃ r : RowD, r = ⟨nn1, bb1, oo1, cc1, zz1⟩ ∧ r.Ok w := ⟨_, rfl, ⟨x1_1, x2_1, x3_1, x4_1, x5_1⟩⟩
      have hv1 : Value.slice (some ⟨bb1, oo1, none⟩) nn1 cc1 = r1.v := by rw [hr1]; rfl
      rw [hv1]
      clear hr1 hv1 x1_1 x2_1 x3_1 x4_1 x5_1
      have mx1 : r1.n ≤ 9223372036854775807 := Nat.le_trans k1.le k1.mx
      have hc1 : (0 ≤ (r1.n : Int) ∧ (r1.n : Int) ≤ 0) ∨ (1 ≤ (r1.n : Int) ∧ (r1.n : Int) ≤ 1472) ∨ (1473 ≤ (r1.n : Int) ∧ (r1.n : Int) ≤ 2952) ∨ (2953 ≤ (r1.n : Int) ∧ (r1.n : Int) ≤ 4432) ∨ (4433 ≤ (r1.n : Int) ∧ (r1.n : Int) ≤ 5912) ∨ (5913 ≤ (r1.n : Int) ∧ (r1.n : Int) ≤ 7392) ∨ (7393 ≤ (r1.n : Int) ∧ (r1.n : Int) ≤ 8872) ∨ (8873 ≤ (r1.n : Int) ∧ (r1.n : Int) ≤ 10352) ∨ (10353 ≤ (r1.n : Int) ∧ (r1.n : Int) ≤ 11832) ∨ (11833 ≤ (r1.n : Int) ∧ (r1.n : Int) ≤ 13312) ∨ (13313 ≤ (r1.n : Int) ∧ (r1.n : Int) ≤ 14792) ∨ (14793 ≤ (r1.n : Int) ∧ (r1.n : Int) ≤ 16272) ∨ (16273 ≤ (r1.n : Int) ∧ (r1.n : Int) ≤ 17752) ∨ (17753 ≤ (r1.n : Int) ∧ (r1.n : Int) ≤ 19232) ∨ (19233 ≤ (r1.n : Int) ∧ (r1.n : Int) ≤ 20000) ∨ (20001 ≤ (r1.n : Int) ∧ (r1.n : Int) ≤ 9223372036854775807) := by omega
      rcases hc1 with hc1 | hc1 | hc1 | hc1 | hc1 | hc1 | hc1 | hc1 | hc1 | hc1 | hc1 | hc1 | hc1 | hc1 | hc1 | hc1
      · have hc2 : ((-9223372036854775808) ≤ a2 ∧ a2 ≤ 0) ∨ (1 ≤ a2 ∧ a2 ≤ 65535) ∨ (65536 ≤ a2 ∧ a2 ≤ 9223372036854775807) := by omega
        clear h2
        rcases hc2 with h2 | h2 | h2
        · exact pPL_any w (some q0) 0 0 (by omega) _ r1.n r1.c (by omega) a2 (by omega)
        · exact pZ0_any w (some q0) 0 0 (by omega) _ r1.n r1.c (by omega) a2 (by omega)
        · exact pPH_any w (some q0) 0 0 (by omega) _ r1.n r1.c (by omega) a2 (by omega)
      · have hc2 : ((-9223372036854775808) ≤ a2 ∧ a2 ≤ 0) ∨ (1 ≤ a2 ∧ a2 ≤ 65535) ∨ (65536 ≤ a2 ∧ a2 ≤ 9223372036854775807) := by omega
        clear h2
        rcases hc2 with h2 | h2 | h2
        · exact pPL_any w (some q0) 0 0 (by omega) _ r1.n r1.c (by omega) a2 (by omega)
        · exact pZ1_any w (some q0) 0 0 (by omega) r1 k1 (by omega) a2 (by omega)
        · exact pPH_any w (some q0) 0 0 (by omega) _ r1.n r1.c (by omega) a2 (by omega)
      · have hc2 : ((-9223372036854775808) ≤ a2 ∧ a2 ≤ 0) ∨ (1 ≤ a2 ∧ a2 ≤ 65535) ∨ (65536 ≤ a2 ∧ a2 ≤ 9223372036854775807) := by omega
        clear h2
        rcases hc2 with h2 | h2 | h2
        · exact pPL_any w (some q0) 0 0 (by omega) _ r1.n r1.c (by omega) a2 (by omega)
        · exact pZ2_any w (some q0) 0 0 (by omega) r1 k1 (by omega) a2 (by omega)
        · exact pPH_any w (some q0) 0 0 (by omega) _ r1.n r1.c (by omega) a2 (by omega)
      · have hc2 : ((-9223372036854775808) ≤ a2 ∧ a2 ≤ 0) ∨ (1 ≤ a2 ∧ a2 ≤ 65535) ∨ (65536 ≤ a2 ∧ a2 ≤ 9223372036854775807) := by omega
        clear h2
        rcases hc2 with h2 | h2 | h2
        · exact pPL_any w (some q0) 0 0 (by omega) _ r1.n r1.c (by omega) a2 (by omega)
        · exact pZ3_any w (some q0) 0 0 (by omega) r1 k1 (by omega) a2 (by omega)
        · exact pPH_any w (some q0) 0 0 (by omega) _ r1.n r1.c (by omega) a2 (by omega)
      · have hc2 : ((-9223372036854775808) ≤ a2 ∧ a2 ≤ 0) ∨ (1 ≤ a2 ∧ a2 ≤ 65535) ∨ (65536 ≤ a2 ∧ a2 ≤ 9223372036854775807) := by omega
        clear h2
        rcases hc2 with h2 | h2 | h2
        · exact pPL_any w (some q0) 0 0 (by omega) _ r1.n r1.c (by omega) a2 (by omega)
        · exact pZ4_any w (some q0) 0 0 (by omega) r1 k1 (by omega) a2 (by omega)
        · exact pPH_any w (some q0) 0 0 (by omega) _ r1.n r1.c (by omega) a2 (by omega)
      · have hc2 : ((-9223372036854775808) ≤ a2 ∧ a2 ≤ 0) ∨ (1 ≤ a2 ∧ a2 ≤ 65535) ∨ (65536 ≤ a2 ∧ a2 ≤ 9223372036854775807) := by omega
        clear h2
        rcases hc2 with h2 | h2 | h2
        · exact pPL_any w (some q0) 0 0 (by omega) _ r1.n r1.c (by omega) a2 (by omega)
        · exact pZ5_any w (some q0) 0 0 (by omega) r1 k1 (by omega) a2 (by omega)
        · exact pPH_any w (some q0) 0 0 (by omega) _ r1.n r1.c (by omega) a2 (by omega)
      · have hc2 : ((-9223372036854775808) ≤ a2 ∧ a2 ≤ 0) ∨ (1 ≤ a2 ∧ a2 ≤ 65535) ∨ (65536 ≤ a2 ∧ a2 ≤ 9223372036854775807) := by omega
        clear h2
        rcases hc2 with h2 | h2 | h2
        · exact pPL_any w (some q0) 0 0 (by omega) _ r1.n r1.c (by omega) a2 (by omega)
        · exact pZ6_any w (some q0) 0 0 (by omega) r1 k1 (by omega) a2 (by omega)
        · exact pPH_any w (some q0) 0 0 (by omega) _ r1.n r1.c (by omega) a2 (by omega)
      · have hc2 : ((-9223372036854775808) ≤ a2 ∧ a2 ≤ 0) ∨ (1 ≤ a2 ∧ a2 ≤ 65535) ∨ (65536 ≤ a2 ∧ a2 ≤ 9223372036854775807) := by omega
        clear h2
        rcases hc2 with h2 | h2 | h2
        · exact pPL_any w (some q0) 0 0 (by omega) _ r1.n r1.c (by omega) a2 (by omega)
        · exact pZ7_any w (some q0) 0 0 (by omega) r1 k1 (by omega) a2 (by omega)
        · exact pPH_any w (some q0) 0 0 (by omega) _ r1.n r1.c (by omega) a2 (by omega)
      · have hc2 : ((-9223372036854775808) ≤ a2 ∧ a2 ≤ 0) ∨ (1 ≤ a2 ∧ a2 ≤ 65535) ∨ (65536 ≤ a2 ∧ a2 ≤ 9223372036854775807) := by omega
        clear h2
        rcases hc2 with h2 | h2 | h2
        · exact pPL_any w (some q0) 0 0 (by omega) _ r1.n r1.c (by omega) a2 (by omega)
        · exact pZ8_any w (some q0) 0 0 (by omega) r1 k1 (by omega) a2 (by omega)
        · exact pPH_any w (some q0) 0 0 (by omega) _ r1.n r1.c (by omega) a2 (by omega)
      · have hc2 : ((-9223372036854775808) ≤ a2 ∧ a2 ≤ 0) ∨ (1 ≤ a2 ∧ a2 ≤ 65535) ∨ (65536 ≤ a2 ∧ a2 ≤ 9223372036854775807) := by omega
        clear h2
        rcases hc2 with h2 | h2 | h2
        · exact pPL_any w (some q0) 0 0 (by omega) _ r1.n r1.c (by omega) a2 (by omega)
        · exact pZ9_any w (some q0) 0 0 (by omega) r1 k1 (by omega) a2 (by omega)
        · exact pPH_any w (some q0) 0 0 (by omega) _ r1.n r1.c (by omega) a2 (by omega)
      · have hc2 : ((-9223372036854775808) ≤ a2 ∧ a2 ≤ 0) ∨ (1 ≤ a2 ∧ a2 ≤ 65535) ∨ (65536 ≤ a2 ∧ a2 ≤ 9223372036854775807) := by omega
        clear h2
        rcases hc2 with h2 | h2 | h2
        · exact pPL_any w (some q0) 0 0 (by omega) _ r1.n r1.c (by omega) a2 (by omega)
        · exact pZ10_any w (some q0) 0 0 (by omega) r1 k1 (by omega) a2 (by omega)
        · exact pPH_any w (some q0) 0 0 (by omega) _ r1.n r1.c (by omega) a2 (by omega)
      · have hc2 : ((-9223372036854775808) ≤ a2 ∧ a2 ≤ 0) ∨ (1 ≤ a2 ∧ a2 ≤ 65535) ∨ (65536 ≤ a2 ∧ a2 ≤ 9223372036854775807) := by omega
        clear h2
        rcases hc2 with h2 | h2 | h2
        · exact pPL_any w (some q0) 0 0 (by omega) _ r1.n r1.c (by omega) a2 (by omega)
        · exact pZ11_any w (some q0) 0 0 (by omega) r1 k1 (by omega) a2 (by omega)
        · exact pPH_any w (some q0) 0 0 (by omega) _ r1.n r1.c (by omega) a2 (by omega)
      · have hc2 : ((-9223372036854775808) ≤ a2 ∧ a2 ≤ 0) ∨ (1 ≤ a2 ∧ a2 ≤ 65535) ∨ (65536 ≤ a2 ∧ a2 ≤ 9223372036854775807) := by omega
        clear h2
        rcases hc2 with h2 | h2 | h2
        · exact pPL_any w (some q0) 0 0 (by omega) _ r1.n r1.c (by omega) a2 (by omega)
        · exact pZ12_any w (some q0) 0 0 (by omega) r1 k1 (by omega) a2 (by omega)
        · exact pPH_any w (some q0) 0 0 (by omega) _ r1.n r1.c (by omega) a2 (by omega)
      · have hc2 : ((-9223372036854775808) ≤ a2 ∧ a2 ≤ 0) ∨ (1 ≤ a2 ∧ a2 ≤ 65535) ∨ (65536 ≤ a2 ∧ a2 ≤ 9223372036854775807) := by omega
        clear h2
        rcases hc2 with h2 | h2 | h2
        · exact pPL_any w (some q0) 0 0 (by omega) _ r1.n r1.c (by omega) a2 (by omega)
        · exact pZ13_any w (some q0) 0 0 (by omega) r1 k1 (by omega) a2 (by omega)
        · exact pPH_any w (some q0) 0 0 (by omega) _ r1.n r1.c (by omega) a2 (by omega)
      · have hc2 : ((-9223372036854775808) ≤ a2 ∧ a2 ≤ 0) ∨ (1 ≤ a2 ∧ a2 ≤ 65535) ∨ (65536 ≤ a2 ∧ a2 ≤ 9223372036854775807) := by omega
        clear h2
        rcases hc2 with h2 | h2 | h2
        · exact pPL_any w (some q0) 0 0 (by omega) _ r1.n r1.c (by omega) a2 (by omega)
        · exact pZ14_any w (some q0) 0 0 (by omega) r1 k1 (by omega) a2 (by omega)
        · exact pPH_any w (some q0) 0 0 (by omega) _ r1.n r1.c (by omega) a2 (by omega)
      · exact pLD_any w (some q0) 0 0 (by omega) _ r1.n r1.c (by omega) a2 (by omega)
  · obtain ⟨r0, hr0, k0⟩ : ∃ r : RowD, r = ⟨nn0, bb0, oo0, cc0, zz0⟩ ∧ r.Ok w := ⟨_, rfl, ⟨x1_0, x2_0, x3_0, x4_0, x5_0⟩⟩
    have hv0 : Value.slice (some ⟨bb0, oo0, none⟩) nn0 cc0 = r0.v := by rw [hr0]; rfl
    rw [hv0]
    clear hr0 hv0 x1_0 x2_0 x3_0 x4_0 x5_0
    have mx0 : r0.n ≤ 9223372036854775807 := Nat.le_trans k0.le k0.mx
    have hc0 : (0 ≤ (r0.n : Int) ∧ (r0.n : Int) ≤ 0) ∨ (1 ≤ (r0.n : Int) ∧ (r0.n : Int) ≤ 1000) ∨ (1001 ≤ (r0.n : Int) ∧ (r0.n : Int) ≤ 9223372036854775807) := by omega
    rcases hc0 with hc0 | hc0 | hc0
    · rcases v1_in with rfl | ⟨q1, rfl⟩ | ⟨bb1, oo1, nn1, cc1, zz1, rfl, x1_1, x2_1, x3_1, x4_1, x5_1⟩
      · have hc2 : ((-9223372036854775808) ≤ a2 ∧ a2 ≤ 0) ∨ (1 ≤ a2 ∧ a2 ≤ 65535) ∨ (65536 ≤ a2 ∧ a2 ≤ 9223372036854775807) := by omega
        clear h2
        rcases hc2 with h2 | h2 | h2
        · exact pPL_any w _ r0.n r0.c (by omega) none 0 0 (by omega) a2 (by omega)
        · exact pZ0_any w _ r0.n r0.c (by omega) none 0 0 (by omega) a2 (by omega)
        · exact pPH_any w _ r0.n r0.c (by omega) none 0 0 (by omega) a2 (by omega)
      · have hc2 : ((-9223372036854775808) ≤ a2 ∧ a2 ≤ 0) ∨ (1 ≤ a2 ∧ a2 ≤ 65535) ∨ (65536 ≤ a2 ∧ a2 ≤ 9223372036854775807) := by omega
        clear h2
        rcases hc2 with h2 | h2 | h2
        · exact pPL_any w _ r0.n r0.c (by omega) (some q1) 0 0 (by omega) a2 (by omega)
        · exact pZ0_any w _ r0.n r0.c (by omega) (some q1) 0 0 (by omega) a2 (by omega)
        · exact pPH_any w _ r0.n r0.c (by omega) (some q1) 0 0 (by omega) a2 (by omega)
      · obtain ⟨r1, hr1, k1⟩ : ∃ r : RowD, r = ⟨nn1, bb1, oo1, cc1, zz1⟩ ∧ r.Ok w := ⟨_, rfl, ⟨x1_1, x2_1, x3_1, x4_1, x5_1⟩⟩
        have hv1 : Value.slice (some ⟨bb1, oo1, none⟩) nn1 cc1 = r1.v := by rw [hr1]; rfl
        rw [hv1]
        clear hr1 hv1 x1_1 x2_1 x3_1 x4_1 x5_1
        have mx1 : r1.n ≤ 9223372036854775807 := Nat.le_trans k1.le k1.mx
        have hc1 : (0 ≤ (r1.n : Int) ∧ (r1.n : Int) ≤ 0) ∨ (1 ≤ (r1.n : Int) ∧ (r1.n : Int) ≤ 1472) ∨ (1473 ≤ (r1.n : Int) ∧ (r1.n : Int) ≤ 2952) ∨ (2953 ≤ (r1.n : Int) ∧ (r1.n : Int) ≤ 4432) ∨ (4433 ≤ (r1.n : Int) ∧ (r1.n : Int) ≤ 5912) ∨ (5913 ≤ (r1.n : Int) ∧ (r1.n : Int) ≤ 7392) ∨ (7393 ≤ (r1.n : Int) ∧ (r1.n : Int) ≤ 8872) ∨ (8873 ≤ (r1.n : Int) ∧ (r1.n : Int) ≤ 10352) ∨ (10353 ≤ (r1.n : Int) ∧ (r1.n : Int) ≤ 11832) ∨ (11833 ≤ (r1.n : Int) ∧ (r1.n : Int) ≤ 13312) ∨ (13313 ≤ (r1.n : Int) ∧ (r1.n : Int) ≤ 14792) ∨ (14793 ≤ (r1.n : Int) ∧ (r1.n : Int) ≤ 16272) ∨ (16273 ≤ (r1.n : Int) ∧ (r1.n : Int) ≤ 17752) ∨ (17753 ≤ (r1.n : Int) ∧ (r1.n : Int) ≤ 19232) ∨ (19233 ≤ (r1.n : Int) ∧ (r1.n : Int) ≤ 20000) ∨ (20001 ≤ (r1.n : Int) ∧ (r1.n : Int) ≤ 9223372036854775807) := by omega
        rcases hc1 with hc1 | hc1 | hc1 | hc1 | hc1 | hc1 | hc1 | hc1 | hc1 | hc1 | hc1 | hc1 | hc1 | hc1 | hc1 | hc1
        · have hc2 : ((-9223372036854775808) ≤ a2 ∧ a2 ≤ 0) ∨ (1 ≤ a2 ∧ a2 ≤ 65535) ∨ (65536 ≤ a2 ∧ a2 ≤ 9223372036854775807) := by omega
          clear h2
          rcases hc2 with h2 | h2 | h2
          · exact pPL_any w _ r0.n r0.c (by omega) _ r1.n r1.c (by omega) a2 (by omega)
          · exact pZ0_any w _ r0.n r0.c (by omega) _ r1.n r1.c (by omega) a2 (by omega)
          · exact pPH_any w _ r0.n r0.c (by omega) _ r1.n r1.c (by omega) a2 (by omega)
        · have hc2 : ((-9223372036854775808) ≤ a2 ∧ a2 ≤ 0) ∨ (1 ≤ a2 ∧ a2 ≤ 65535) ∨ (65536 ≤ a2 ∧ a2 ≤ 9223372036854775807) := by omega
          clear h2
          rcases hc2 with h2 | h2 | h2
          · exact pPL_any w _ r0.n r0.c (by omega) _ r1.n r1.c (by omega) a2 (by omega)
          · exact pZ1_any w _ r0.n r0.c (by omega) r1 k1 (by omega) a2 (by omega)
          · exact pPH_any w _ r0.n r0.c (by omega) _ r1.n r1.c (by omega) a2 (by omega)
        · have hc2 : ((-9223372036854775808) ≤ a2 ∧ a2 ≤ 0) ∨ (1 ≤ a2 ∧ a2 ≤ 65535) ∨ (65536 ≤ a2 ∧ a2 ≤ 9223372036854775807) := by omega
          clear h2
          rcases hc2 with h2 | h2 | h2
          · exact pPL_any w _ r0.n r0.c (by omega) _ r1.n r1.c (by omega) a2 (by omega)
          · exact pZ2_any w _ r0.n r0.c (by omega) r1 k1 (by omega) a2 (by omega)
          · exact pPH_any w _ r0.n r0.c (by omega) _ r1.n r1.c (by omega) a2 (by omega)
        · have hc2 : ((-9223372036854775808) ≤ a2 ∧ a2 ≤ 0) ∨ (1 ≤ a2 ∧ a2 ≤ 65535) ∨ (65536 ≤ a2 ∧ a2 ≤ 9223372036854775807) := by omega
          clear h2
          rcases hc2 with h2 | h2 | h2
          · exact pPL_any w _ r0.n r0.c (by omega) _ r1.n r1.c (by omega) a2 (by omega)
          · exact pZ3_any w _ r0.n r0.c (by omega) r1 k1 (by omega) a2 (by omega)
          · exact pPH_any w _ r0.n r0.c (by omega) _ r1.n r1.c (by omega) a2 (by omega)
        · have hc2 : ((-9223372036854775808) ≤ a2 ∧ a2 ≤ 0) ∨ (1 ≤ a2 ∧ a2 ≤ 65535) ∨ (65536 ≤ a2 ∧ a2 ≤ 9223372036854775807) := by omega
          clear h2
          rcases hc2 with h2 | h2 | h2
          · exact pPL_any w _ r0.n r0.c (by omega) _ r1.n r1.c (by omega) a2 (by omega)
          · exact pZ4_any w _ r0.n r0.c (by omega) r1 k1 (by omega) a2 (by omega)
          · exact pPH_any w _ r0.n r0.c (by omega) _ r1.n r1.c (by omega) a2 (by omega)
        · have hc2 : ((-9223372036854775808) ≤ a2 ∧ a2 ≤ 0) ∨ (1 ≤ a2 ∧ a2 ≤ 65535) ∨ (65536 ≤ a2 ∧ a2 ≤ 9223372036854775807) := by omega
          clear h2
          rcases hc2 with h2 | h2 | h2
          · exact pPL_any w _ r0.n r0.c (by omega) _ r1.n r1.c (by omega) a2 (by omega)
          · exact pZ5_any w _ r0.n r0.c (by omega) r1 k1 (by omega) a2 (by omega)
          · exact pPH_any w _ r0.n r0.c (by omega) _ r1.n r1.c (by omega) a2 (by omega)
        · have hc2 : ((-9223372036854775808) ≤ a2 ∧ a2 ≤ 0) ∨ (1 ≤ a2 ∧ a2 ≤ 65535) ∨ (65536 ≤ a2 ∧ a2 ≤ 9223372036854775807) := by omega
          clear h2
          rcases hc2 with h2 | h2 | h2
          · exact pPL_any w _ r0.n r0.c (by omega) _ r1.n r1.c (by omega) a2 (by omega)
          · exact pZ6_any w _ r0.n r0.c (by omega) r1 k1 (by omega) a2 (by omega)
          · exact pPH_any w _ r0.n r0.c (by omega) _ r1.n r1.c (by omega) a2 (by omega)
        · have hc2 : ((-9223372036854775808) ≤ a2 ∧ a2 ≤ 0) ∨ (1 ≤ a2 ∧ a2 ≤ 65535) ∨ (65536 ≤ a2 ∧ a2 ≤ 9223372036854775807) := by omega
          clear h2
          rcases hc2 with h2 | h2 | h2
          · exact pPL_any w _ r0.n r0.c (by omega) _ r1.n r1.c (by omega) a2 (by omega)
          · exact pZ7_any w _ r0.n r0.c (by omega) r1 k1 (by omega) a2 (by omega)
          · exact pPH_any w _ r0.n r0.c (by omega) _ r1.n r1.c (by omega) a2 (by omega)
        · have hc2 : ((-9223372036854775808) ≤ a2 ∧ a2 ≤ 0) ∨ (1 ≤ a2 ∧ a2 ≤ 65535) ∨ (65536 ≤ a2 ∧ a2 ≤ 9223372036854775807) := by omega
          clear h2
          rcases hc2 with h2 | h2 | h2
          · exact pPL_any w _ r0.n r0.c (by omega) _ r1.n r1.c (by omega) a2 (by omega)
          · exact pZ8_any w _ r0.n r0.c (by omega) r1 k1 (by omega) a2 (by omega)
          · exact pPH_any w _ r0.n r0.c (by omega) _ r1.n r1.c (by omega) a2 (by omega)
        · have hc2 : ((-9223372036854775808) ≤ a2 ∧ a2 ≤ 0) ∨ (1 ≤ a2 ∧ a2 ≤ 65535) ∨ (65536 ≤ a2 ∧ a2 ≤ 9223372036854775807) := by omega
          clear h2
          rcases hc2 with h2 | h2 | h2
          · exact pPL_any w _ r0.n r0.c (by omega) _ r1.n r1.c (by omega) a2 (by omega)
          · exact pZ9_any w _ r0.n r0.c (by omega) r1 k1 (by omega) a2 (by omega)
          · exact pPH_any w _ r0.n r0.c (by omega) _ r1.n r1.c (by omega) a2 (by omega)
        · have hc2 : ((-9223372036854775808) ≤ a2 ∧ a2 ≤ 0) ∨ (1 ≤ a2 ∧ a2 ≤ 65535) ∨ (65536 ≤ a2 ∧ a2 ≤ 9223372036854775807) := by omega
          clear h2
          rcases hc2 with h2 | h2 | h2
          · exact pPL_any w _ r0.n r0.c (by omega) _ r1.n r1.c (by omega) a2 (by omega)
          · exact pZ10_any w _ r0.n r0.c (by omega) r1 k1 (by omega) a2 (by omega)
          · exact pPH_any w _ r0.n r0.c (by omega) _ r1.n r1.c (by omega) a2 (by omega)
        · have hc2 : ((-9223372036854775808) ≤ a2 ∧ a2 ≤ 0) ∨ (1 ≤ a2 ∧ a2 ≤ 65535) ∨ (65536 ≤ a2 ∧ a2 ≤ 9223372036854775807) := by omega
          clear h2
          rcases hc2 with h2 | h2 | h2
          · exact pPL_any w _ r0.n r0.c (by omega) _ r1.n r1.c (by omega) a2 (by omega)
          · exact pZ11_any w _ r0.n r0.c (by omega) r1 k1 (by omega) a2 (by omega)
          · exact pPH_any w _ r0.n r0.c (by omega) _ r1.n r1.c (by omega) a2 (by omega)
        · have hc2 : ((-9223372036854775808) ≤ a2 ∧ a2 ≤ 0) ∨ (1 ≤ a2 ∧ a2 ≤ 65535) ∨ (65536 ≤ a2 ∧ a2 ≤ 9223372036854775807) := by omega
          clear h2
          rcases hc2 with h2 | h2 | h2
          · exact pPL_any w _ r0.n r0.c (by omega) _ r1.n r1.c (by omega) a2 (by omega)
          · exact pZ12_any w _ r0.n r0.c (by omega) r1 k1 (by omega) a2 (by omega)
          · exact pPH_any w _ r0.n r0.c (by omega) _ r1.n r1.c (by omega) a2 (by omega)
        · have hc2 : ((-9223372036854775808) ≤ a2 ∧ a2 ≤ 0) ∨ (1 ≤ a2 ∧ a2 ≤ 65535) ∨ (65536 ≤ a2 ∧ a2 ≤ 9223372036854775807) := by omega
          clear h2
          rcases hc2 with h2 | h2 | h2
          · exact pPL_any w _ r0.n r0.c (by omega) _ r1.n r1.c (by omega) a2 (by omega)
          · exact pZ13_any w _ r0.n r0.c (by omega) r1 k1 (by omega) a2 (by omega)
          · exact pPH_any w _ r0.n r0.c (by omega) _ r1.n r1.c (by omega) a2 (by omega)
        · have hc2 : ((-9223372036854775808) ≤ a2 ∧ a2 ≤ 0) ∨ (1 ≤ a2 ∧ a2 ≤ 65535) ∨ (65536 ≤ a2 ∧ a2 ≤ 9223372036854775807) := by omega
          clear h2
          rcases hc2 with h2 | h2 | h2
          · exact pPL_any w _ r0.n r0.c (by omega) _ r1.n r1.c (by omega) a2 (by omega)
          · exact pZ14_any w _ r0.n r0.c (by omega) r1 k1 (by omega) a2 (by omega)
          · exact pPH_any w _ r0.n r0.c (by omega) _ r1.n r1.c (by omega) a2 (by omega)
        · exact pLD_any w _ r0.n r0.c (by omega) _ r1.n r1.c (by omega) a2 (by omega)
    · rcases v1_in with rfl | ⟨q1, rfl⟩ | ⟨bb1, oo1, nn1, cc1, zz1, rfl, x1_1, x2_1, x3_1, x4_1, x5_1⟩
      · have hc2 : ((-9223372036854775808) ≤ a2 ∧ a2 ≤ 0) ∨ (1 ≤ a2 ∧ a2 ≤ 65535) ∨ (65536 ≤ a2 ∧ a2 ≤ 9223372036854775807) := by omega
        clear h2
        rcases hc2 with h2 | h2 | h2
        · exact pPL_any w _ r0.n r0.c (by omega) none 0 0 (by omega) a2 (by omega)
        · exact pM0_any w r0 k0 (by omega) none 0 0 (by omega) a2 (by omega)
        · exact pPH_any w _ r0.n r0.c (by omega) none 0 0 (by omega) a2 (by omega)
      · have hc2 : ((-9223372036854775808) ≤ a2 ∧ a2 ≤ 0) ∨ (1 ≤ a2 ∧ a2 ≤ 65535) ∨ (65536 ≤ a2 ∧ a2 ≤ 9223372036854775807) := by omega
        clear h2
        rcases hc2 with h2 | h2 | h2
        · exact pPL_any w _ r0.n r0.c (by omega) (some q1) 0 0 (by omega) a2 (by omega)
        · exact pM0_any w r0 k0 (by omega) (some q1) 0 0 (by omega) a2 (by omega)
        · exact pPH_any w _ r0.n r0.c (by omega) (some q1) 0 0 (by omega) a2 (by omega)
      · obtain ⟨r1, hr1, k1⟩ : ∃ r : RowD, r = ⟨nn1, bb1, oo1, cc1, zz1⟩ ∧ r.Ok w := ⟨_, rfl, ⟨x1_1, x2_1, x3_1, x4_1, x5_1⟩⟩
        have hv1 : Value.slice (some ⟨bb1, oo1, none⟩) nn1 cc1 = r1.v := by rw [hr1]; rfl
        rw [hv1]
        clear hr1 hv1 x1_1 x2_1 x3_1 x4_1 x5_1
        have mx1 : r1.n ≤ 9223372036854775807 := Nat.le_trans k1.le k1.mx
        have hc1 : (0 ≤ (r1.n : Int) ∧ (r1.n : Int) ≤ 0) ∨ (1 ≤ (r1.n : Int) ∧ (r1.n : Int) ≤ 1472) ∨ (1473 ≤ (r1.n : Int) ∧ (r1.n : Int) ≤ 2952) ∨ (2953 ≤ (r1.n : Int) ∧ (r1.n : Int) ≤ 4432) ∨ (4433 ≤ (r1.n : Int) ∧ (r1.n : Int) ≤ 5912) ∨ (5913 ≤ (r1.n : Int) ∧ (r1.n : Int) ≤ 7392) ∨ (7393 ≤ (r1.n : Int) ∧ (r1.n : Int) ≤ 8872) ∨ (8873 ≤ (r1.n : Int) ∧ (r1.n : Int) ≤ 10352) ∨ (10353 ≤ (r1.n : Int) ∧ (r1.n : Int) ≤ 11832) ∨ (11833 ≤ (r1.n : Int) ∧ (r1.n : Int) ≤ 13312) ∨ (13313 ≤ (r1.n : Int) ∧ (r1.n : Int) ≤ 14792) ∨ (14793 ≤ (r1.n : Int) ∧ (r1.n : Int) ≤ 16272) ∨ (16273 ≤ (r1.n : Int) ∧ (r1.n : Int) ≤ 17752) ∨ (17753 ≤ (r1.n : Int) ∧ (r1.n : Int) ≤ 19232) ∨ (19233 ≤ (r1.n : Int) ∧ (r1.n : Int) ≤ 20000) ∨ (20001 ≤ (r1.n : Int) ∧ (r1.n : Int) ≤ 9223372036854775807) := by omega
        rcases hc1 with hc1 | hc1 | hc1 | hc1 | hc1 | hc1 | hc1 | hc1 | hc1 | hc1 | hc1 | hc1 | hc1 | hc1 | hc1 | hc1
        · have hc2 : ((-9223372036854775808) ≤ a2 ∧ a2 ≤ 0) ∨ (1 ≤ a2 ∧ a2 ≤ 65535) ∨ (65536 ≤ a2 ∧ a2 ≤ 9223372036854775807) := by omega
          clear h2
          rcases hc2 with h2 | h2 | h2
          · exact pPL_any w _ r0.n r0.c (by omega) _ r1.n r1.c (by omega) a2 (by omega)
          · exact pM0_any w r0 k0 (by omega) _ r1.n r1.c (by omega) a2 (by omega)
          · exact pPH_any w _ r0.n r0.c (by omega) _ r1.n r1.c (by omega) a2 (by omega)
        · have hc2 : ((-9223372036854775808) ≤ a2 ∧ a2 ≤ 0) ∨ (1 ≤ a2 ∧ a2 ≤ 65535) ∨ (65536 ≤ a2 ∧ a2 ≤ 9223372036854775807) := by omega
          clear h2
          rcases hc2 with h2 | h2 | h2
          · exact pPL_any w _ r0.n r0.c (by omega) _ r1.n r1.c (by omega) a2 (by omega)
          · exact pM1_any w r0 k0 (by omega) r1 k1 (by omega) a2 (by omega)
          · exact pPH_any w _ r0.n r0.c (by omega) _ r1.n r1.c (by omega) a2 (by omega)
        · have hc2 : ((-9223372036854775808) ≤ a2 ∧ a2 ≤ 0) ∨ (1 ≤ a2 ∧ a2 ≤ 65535) ∨ (65536 ≤ a2 ∧ a2 ≤ 9223372036854775807) := by omega
          clear h2
          rcases hc2 with h2 | h2 | h2
          · exact pPL_any w _ r0.n r0.c (by omega) _ r1.n r1.c (by omega) a2 (by omega)
          · exact pM2_any w r0 k0 (by omega) r1 k1 (by omega) a2 (by omega)
          · exact pPH_any w _ r0.n r0.c (by omega) _ r1.n r1.c (by omega) a2 (by omega)
        · have hc2 : ((-9223372036854775808) ≤ a2 ∧ a2 ≤ 0) ∨ (1 ≤ a2 ∧ a2 ≤ 65535) ∨ (65536 ≤ a2 ∧ a2 ≤ 9223372036854775807) := by omega
          clear h2
          rcases hc2 with h2 | h2 | h2
          · exact pPL_any w _ r0.n r0.c (by omega) _ r1.n r1.c (by omega) a2 (by omega)
          · exact pM3_any w r0 k0 (by omega) r1 k1 (by omega) a2 (by omega)
          · exact pPH_any w _ r0.n r0.c (by omega) _ r1.n r1.c (by omega) a2 (by omega)
        · have hc2 : ((-9223372036854775808) ≤ a2 ∧ a2 ≤ 0) ∨ (1 ≤ a2 ∧ a2 ≤ 65535) ∨ (65536 ≤ a2 ∧ a2 ≤ 9223372036854775807) := by omega
          clear h2
          rcases hc2 with h2 | h2 | h2
          · exact pPL_any w _ r0.n r0.c (by omega) _ r1.n r1.c (by omega) a2 (by omega)
          · exact pM4_any w r0 k0 (by omega) r1 k1 (by omega) a2 (by omega)
          · exact pPH_any w _ r0.n r0.c (by omega) _ r1.n r1.c (by omega) a2 (by omega)
        · have hc2 : ((-9223372036854775808) ≤ a2 ∧ a2 ≤ 0) ∨ (1 ≤ a2 ∧ a2 ≤ 65535) ∨ (65536 ≤ a2 ∧ a2 ≤ 9223372036854775807) := by omega
          clear h2
          rcases hc2 with h2 | h2 | h2
          · exact pPL_any w _ r0.n r0.c (by omega) _ r1.n r1.c (by omega) a2 (by omega)
          · exact pM5_any w r0 k0 (by omega) r1 k1 (by omega) a2 (by omega)
          · exact pPH_any w _ r0.n r0.c (by omega) _ r1.n r1.c (by omega) a2 (by omega)
        · have hc2 : ((-9223372036854775808) ≤ a2 ∧ a2 ≤ 0) ∨ (1 ≤ a2 ∧ a2 ≤ 65535) ∨ (65536 ≤ a2 ∧ a2 ≤ 9223372036854775807) := by omega
          clear h2
          rcases hc2 with h2 | h2 | h2
          · exact pPL_any w _ r0.n r0.c (by omega) _ r1.n r1.c (by omega) a2 (by omega)
          · exact pM6_any w r0 k0 (by omega) r1 k1 (by omega) a2 (by omega)
          · exact pPH_any w _ r0.n r0.c (by omega) _ r1.n r1.c (by omega) a2 (by omega)
        · have hc2 : ((-9223372036854775808) ≤ a2 ∧ a2 ≤ 0) ∨ (1 ≤ a2 ∧ a2 ≤ 65535) ∨ (65536 ≤ a2 ∧ a2 ≤ 9223372036854775807) := by omega
          clear h2
          rcases hc2 with h2 | h2 | h2
          · exact pPL_any w _ r0.n r0.c (by omega) _ r1.n r1.c (by omega) a2 (by omega)
          · exact pM7_any w r0 k0 (by omega) r1 k1 (by omega) a2 (by omega)
          · exact pPH_any w _ r0.n r0.c (by omega) _ r1.n r1.c (by omega) a2 (by omega)
        · have hc2 : ((-9223372036854775808) ≤ a2 ∧ a2 ≤ 0) ∨ (1 ≤ a2 ∧ a2 ≤ 65535) ∨ (65536 ≤ a2 ∧ a2 ≤ 9223372036854775807) := by omega
          clear h2
          rcases hc2 with h2 | h2 | h2
          · exact pPL_any w _ r0.n r0.c (by omega) _ r1.n r1.c (by omega) a2 (by omega)
          · exact pM8_any w r0 k0 (by omega) r1 k1 (by omega) a2 (by omega)
          · exact pPH_any w _ r0.n r0.c (by omega) _ r1.n r1.c (by omega) a2 (by omega)
        · have hc2 : ((-9223372036854775808) ≤ a2 ∧ a2 ≤ 0) ∨ (1 ≤ a2 ∧ a2 ≤ 65535) ∨ (65536 ≤ a2 ∧ a2 ≤ 9223372036854775807) := by omega
          clear h2
          rcases hc2 with h2 | h2 | h2
          · exact pPL_any w _ r0.n r0.c (by omega) _ r1.n r1.c (by omega) a2 (by omega)
          · exact pM9_any w r0 k0 (by omega) r1 k1 (by omega) a2 (by omega)
          · exact pPH_any w _ r0.n r0.c (by omega) _ r1.n r1.c (by omega) a2 (by omega)
        · have hc2 : ((-9223372036854775808) ≤ a2 ∧ a2 ≤ 0) ∨ (1 ≤ a2 ∧ a2 ≤ 65535) ∨ (65536 ≤ a2 ∧ a2 ≤ 9223372036854775807) := by omega
          clear h2
          rcases hc2 with h2 | h2 | h2
          · exact pPL_any w _ r0.n r0.c (by omega) _ r1.n r1.c (by omega) a2 (by omega)
          · exact pM10_any w r0 k0 (by omega) r1 k1 (by omega) a2 (by omega)
          · exact pPH_any w _ r0.n r0.c (by omega) _ r1.n r1.c (by omega) a2 (by omega)
        · have hc2 : ((-9223372036854775808) ≤ a2 ∧ a2 ≤ 0) ∨ (1 ≤ a2 ∧ a2 ≤ 65535) ∨ (65536 ≤ a2 ∧ a2 ≤ 9223372036854775807) := by omega
          clear h2
          rcases hc2 with h2 | h2 | h2
          · exact pPL_any w _ r0.n r0.c (by omega) _ r1.n r1.c (by omega) a2 (by omega)
          · exact pM11_any w r0 k0 (by omega) r1 k1 (by omega) a2 (by omega)
          · exact pPH_any w _ r0.n r0.c (by omega) _ r1.n r1.c (by omega) a2 (by omega)
        · have hc2 : ((-9223372036854775808) ≤ a2 ∧ a2 ≤ 0) ∨ (1 ≤ a2 ∧ a2 ≤ 65535) ∨ (65536 ≤ a2 ∧ a2 ≤ 9223372036854775807) := by omega
          clear h2
          rcases hc2 with h2 | h2 | h2
          · exact pPL_any w _ r0.n r0.c (by omega) _ r1.n r1.c (by omega) a2 (by omega)
          · exact pM12_any w r0 k0 (by omega) r1 k1 (by omega) a2 (by omega)
          · exact pPH_any w _ r0.n r0.c (by omega) _ r1.n r1.c (by omega) a2 (by omega)
        · have hc2 : ((-9223372036854775808) ≤ a2 ∧ a2 ≤ 0) ∨ (1 ≤ a2 ∧ a2 ≤ 65535) ∨ (65536 ≤ a2 ∧ a2 ≤ 9223372036854775807) := by omega
          clear h2
          rcases hc2 with h2 | h2 | h2
          · exact pPL_any w _ r0.n r0.c (by omega) _ r1.n r1.c (by omega) a2 (by omega)
          · exact pM13_any w r0 k0 (by omega) r1 k1 (by omega) a2 (by omega)
          · exact pPH_any w _ r0.n r0.c (by omega) _ r1.n r1.c (by omega) a2 (by omega)
        · have hc2 : ((-9223372036854775808) ≤ a2 ∧ a2 ≤ 0) ∨ (1 ≤ a2 ∧ a2 ≤ 65535) ∨ (65536 ≤ a2 ∧ a2 ≤ 9223372036854775807) := by omega
          clear h2
          rcases hc2 with h2 | h2 | h2
          · exact pPL_any w _ r0.n r0.c (by omega) _ r1.n r1.c (by omega) a2 (by omega)
          · exact pM14_any w r0 k0 (by omega) r1 k1 (by omega) a2 (by omega)
          · exact pPH_any w _ r0.n r0.c (by omega) _ r1.n r1.c (by omega) a2 (by omega)
        · exact pLD_any w _ r0.n r0.c (by omega) _ r1.n r1.c (by omega) a2 (by omega)
    · rcases v1_in with rfl | ⟨q1, rfl⟩ | ⟨bb1, oo1, nn1, cc1, zz1, rfl, x1_1, x2_1, x3_1, x4_1, x5_1⟩
      · exact pLF_any w _ r0.n r0.c (by omega) none 0 0 (by omega) a2 (by omega)
      · exact pLF_any w _ r0.n r0.c (by omega) (some q1) 0 0 (by omega) a2 (by omega)
      · obtain ⟨r1, hr1, k1⟩ : ∃ r : RowD, r = ⟨nn1, bb1, oo1, cc1, zz1⟩ ∧ r.Ok w := ⟨_, rfl, ⟨x1_1, x2_1, x3_1, x4_1, x5_1⟩⟩
        have hv1 : Value.slice (some ⟨bb1, oo1, none⟩) nn1 cc1 = r1.v := by rw [hr1]; rfl
        rw [hv1]
        clear hr1 hv1 x1_1 x2_1 x3_1 x4_1 x5_1
        have mx1 : r1.n ≤ 9223372036854775807 := Nat.le_trans k1.le k1.mx
        exact pLF_any w _ r0.n r0.c (by omega) _ r1.n r1.c (by omega) a2 (by omega) 

set_option maxRecDepth 100000 in
theorem lifted (os : Os) (started : os.Started) (H : Type) (enc : TypeId × Value → H) :
    ReturnsInHanded {} Tryz.checked os 3 .any (Rows.hostSendsSpec.pre6 enc Tryz.prog Tryz.f3 Rows.hostSendsRow.domain false) (Rows.hostSendsSpec.post enc Tryz.prog Tryz.f3 false true false false) := by
  refine returnsInHanded_of_change (C := Tryz.checked) own started (by kernel_rfl) Tryz.func3
    (ChangeSpec.witness6 (enc := enc) (C := Tryz.checked) false ⟨#[], #[.slice none 0 0, .slice none 0 0, .int .i64 0], []⟩ 8 (by kernel_rfl) (by kernel_rfl) (by kernel_rfl) (by kernel_rfl)) ?_
  intro W base args ds gs before hval0 hW hcnd _
  have hval : ∀ (j : Nat) t v, Tryz.f3.params[j]? = some t → args[j]? = some v → Value.okWide Tryz.prog W .any base t v := hval0
  have hW' := hW
  obtain ⟨p, q, hA0, hV, rfl, hfz, hnd⟩ := hW
  have hA : DataW.TrodAll enc Tryz.prog W 0 (fun _ => true) true Tryz.f3.params.toList args.toList ds p := hA0
  rw [Tryz.params3] at hA hval
  obtain ⟨v0, vs0, d0, ds0, p_0, q0, hargs, rfl, rfl, k0, r0⟩ := trodAll_cons hA
  obtain ⟨v1, vs1, d1, ds1, p_1, q1, rfl, rfl, rfl, k1, r1⟩ := trodAll_cons r0
  obtain ⟨v2, vs2, d2, ds2, p_2, q2, rfl, rfl, rfl, k2, r2⟩ := trodAll_cons r1
  obtain ⟨rfl, rfl, rfl⟩ := trodAll_nil r2
  obtain rfl : args = #[v0, v1, v2] := by cases args; simp_all
  obtain ⟨rfl, rfl⟩ := trodVars_none hV
  have lt0 : ∀ x ∈ p_0, x.block < W.heap.size := by obtain ⟨m, hm⟩ := k0; exact DataW.trod_lt m _ _ _ hm
  have lt1 : ∀ x ∈ p_1, x.block < W.heap.size := by obtain ⟨m, hm⟩ := k1; exact DataW.trod_lt m _ _ _ hm
  have lt2 : ∀ x ∈ p_2, x.block < W.heap.size := by obtain ⟨m, hm⟩ := k2; exact DataW.trod_lt m _ _ _ hm
  obtain ⟨a2, rfl, hh2⟩ := open_int (hval 2 3 v2 rfl rfl)
  have hrow0 : RowIn W v0 := by
    obtain ⟨fuel, hf⟩ := k0
    obtain ⟨a0, len0, cap0, rfl⟩ := okWide_slice Tryz.underlying22 (hval 0 22 v0 rfl rfl)
    exact open_row Tryz.underlying22 Tryz.underlying5 (by kernel_rfl) hf
  have hrow1 : RowIn W v1 := by
    obtain ⟨fuel, hf⟩ := k1
    obtain ⟨a0, len0, cap0, rfl⟩ := okWide_slice Tryz.underlying22 (hval 1 22 v1 rfl rfl)
    exact open_row Tryz.underlying22 Tryz.underlying5 (by kernel_rfl) hf
  clear hA0 hval0
  refine (walk W _ hrow0 _ hrow1 a2 hh2).mono fun e W' ⟨he, hg⟩ => ?_
  subst he
  have bel := hg.below0
  exact ⟨_, rfl, _, _, _, [], _, [], hW', trodAll_mk1 (shut_bool Tryz.underlying4 _), (trodAll_cons_mk (Below.trod laid_out (by kernel_rfl) (of_decide_eq_true (by kernel_rfl)) k0 bel lt0) (trodAll_cons_mk (Below.trod laid_out (by kernel_rfl) (of_decide_eq_true (by kernel_rfl)) k1 bel lt1) (trodAll_cons_mk (Below.trod laid_out (by kernel_rfl) (of_decide_eq_true (by kernel_rfl)) k2 bel lt2) trodAll_mk0))), rfl, bel.frame _, fun h => by cases h⟩

theorem over : Rows.hostSendsRow.holds Tryz.pinned (OpenSpec.ofChange Rows.hostSendsSpec) :=
  OpenClaim.holds_of_wide 3 Tryz.f3 rfl rfl rfl rfl rfl rfl rfl ⟨rfl, rfl, rfl, rfl, rfl⟩ rfl rfl rfl rfl rfl j_func Tryz.func3 joined
    (of_decide_eq_true (by kernel_rfl)) (by unfold Func.isWrapper; first | (rw [if_pos (by decide +kernel)]; kernel_rfl) | (rw [if_neg (by decide +kernel)]; exact ⟨rfl, rfl⟩))
    (fun os started H enc _ => lifted os started H enc)

theorem proved : Rows.HostSendsSaid := over
end Go.Proofs.YtfomfboennjfoaaGreat.hostSends

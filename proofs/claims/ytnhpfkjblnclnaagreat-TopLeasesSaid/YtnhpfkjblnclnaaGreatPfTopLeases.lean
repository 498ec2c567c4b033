/-
  A host without an address gets one from another host, over datagrams to all, and can be spoken to by it then (wharftop.TopLeases). No condition.
-/
import Derived.Test.YtnhpfkjblnclnaaGreatRows
import Derived.WalkKit
import Derived.ProofKit
import Derived.OpenShut
import Derived.Below
import Derived.Test.YtnhpfkjblnclnaaGreatPaTopLeasesQ0
import Derived.Test.YtnhpfkjblnclnaaGreatPaTopLeasesQ1
import Derived.Test.YtnhpfkjblnclnaaGreatPaTopLeasesQ2
import Derived.Test.YtnhpfkjblnclnaaGreatPaTopLeasesQ3
import Derived.Test.YtnhpfkjblnclnaaGreatPaTopLeasesQ4
import Derived.Test.YtnhpfkjblnclnaaGreatPaTopLeasesQ5
import Derived.Test.YtnhpfkjblnclnaaGreatPaTopLeasesQ6
import Derived.Test.YtnhpfkjblnclnaaGreatPaTopLeasesQ7
import Derived.Test.YtnhpfkjblnclnaaGreatPaTopLeasesQ8
import Derived.Test.YtnhpfkjblnclnaaGreatPaTopLeasesQ9
import Derived.Test.YtnhpfkjblnclnaaGreatPaTopLeasesQ10
import Derived.Test.YtnhpfkjblnclnaaGreatPaTopLeasesQ11
import Derived.Test.YtnhpfkjblnclnaaGreatPaTopLeasesQ12
import Derived.Test.YtnhpfkjblnclnaaGreatPaTopLeasesQ13
import Derived.Test.YtnhpfkjblnclnaaGreatJfTopLeases
namespace Go.Proofs.YtnhpfkjblnclnaaGreat.topLeases
open Go.ChangeShapes Go.WideShapes Go.ChangeAt Go.RowKit
open Go
set_option linter.unusedVariables false
set_option linter.unusedSimpArgs false

theorem own : ownKnob Tryz.prog.godebug = none := by kernel_rfl
section
variable {P : Program} {w : World} {r : Reach} {base : Nat} {t : TypeId} {v : Value}
theorem cell_int {k : IntKind} (ht : P.underlying t = some (.int k)) (h : Cell.okWide P w r base t v) : ∃ n, v = .int k n ∧ k.min ≤ n ∧ n ≤ k.max := by
  simp only [Cell.okWide, ht] at h
  cases v <;> simp_all [Cell.ok, IntKind.has]
theorem cell_bool (ht : P.underlying t = some .bool) (h : Cell.okWide P w r base t v) : ∃ b, v = .bool b := by
  simp only [Cell.okWide, ht] at h
  cases v <;> simp_all [Cell.ok]
theorem cell_slice {e : TypeId} (ht : P.underlying t = some (.slice e)) (h : Cell.okWide P w r base t v) : ∃ a n c, v = .slice a n c := by
  simp only [Cell.okWide, ht] at h
  cases v <;> simp_all [Cell.ok]
end
theorem in_i64 {n : Int} (h : IntKind.i64.min ≤ n ∧ n ≤ IntKind.i64.max) : (-9223372036854775808) ≤ n ∧ n ≤ 9223372036854775807 := by
  rw [show IntKind.i64.min = (-9223372036854775808) by decide, show IntKind.i64.max = 9223372036854775807 by decide] at h
  exact h
set_option maxRecDepth 100000 in
theorem open_int {W : World} {base : Nat} {v : Value} (h : Value.okWide Tryz.prog W .any base 3 v) : ∃ (a0 : Int), v = .int .i64 a0 ∧ ((-9223372036854775808) ≤ a0 ∧ a0 ≤ 9223372036854775807) := by
    simp only [Value.okWide, Tryz.underlying3] at h
    obtain ⟨a0, rfl, h0⟩ := cell_int Tryz.underlying3 h
    have h0 := in_i64 h0
    exact ⟨_, rfl, h0⟩

theorem walk (w : World) (a0 : Int) (h0 : ((-9223372036854775808) ≤ a0 ∧ a0 ≤ 9223372036854775807)) (a1 : Int) (h1 : ((-9223372036854775808) ≤ a1 ∧ a1 ≤ 9223372036854775807)) (v2 : Value) (v2_in : RowIn w v2) : Calls Tryz.prog 9 #[.int .i64 a0, .int .i64 a1, v2] w fun e w' => e = .returned (.bool true) ∧ Kp [] w w' := by
  rcases v2_in with rfl | ⟨q2, rfl⟩ | ⟨bb2, oo2, nn2, cc2, zz2, rfl, x1_2, x2_2, x3_2, x4_2, x5_2⟩
  · have hc0 : ((-9223372036854775808) ≤ a0 ∧ a0 ≤ 2) ∨ (3 ≤ a0 ∧ a0 ≤ 127) ∨ (128 ≤ a0 ∧ a0 ≤ 250) ∨ (251 ≤ a0 ∧ a0 ≤ 9223372036854775807) := by omega
    clear h0
    rcases hc0 with h0 | h0 | h0 | h0
    · exact pLL_any w a0 (by omega) a1 (by omega) none 0 0 (by omega)
    · exact pZA_any w a0 (by omega) a1 (by omega) none 0 0 (by omega)
    · exact pZB_any w a0 (by omega) a1 (by omega) none 0 0 (by omega)
    · exact pLH_any w a0 (by omega) a1 (by omega) none 0 0 (by omega)
  · have hc0 : ((-9223372036854775808) ≤ a0 ∧ a0 ≤ 2) ∨ (3 ≤ a0 ∧ a0 ≤ 127) ∨ (128 ≤ a0 ∧ a0 ≤ 250) ∨ (251 ≤ a0 ∧ a0 ≤ 9223372036854775807) := by omega
    clear h0
    rcases hc0 with h0 | h0 | h0 | h0
    · exact pLL_any w a0 (by omega) a1 (by omega) (some q2) 0 0 (by omega)
    · exact pZA_any w a0 (by omega) a1 (by omega) (some q2) 0 0 (by omega)
    · exact pZB_any w a0 (by omega) a1 (by omega) (some q2) 0 0 (by omega)
    · exact pLH_any w a0 (by omega) a1 (by omega) (some q2) 0 0 (by omega)
  · obtain ⟨r2, hr2, k2⟩ : ∃ r : RowD, r = ⟨nn2, bb2, oo2, cc2, zz2⟩ ∧ r.Ok w := ⟨_, rfl, ⟨x1_2, x2_2, x3_2, x4_2, x5_2⟩⟩
    have hv2 : Value.slice (some ⟨bb2, oo2, none⟩) nn2 cc2 = r2.v := by rw [hr2]; rfl
    rw [hv2]
    clear hr2 hv2 x1_2 x2_2 x3_2 x4_2 x5_2
    have mx2 : r2.n ≤ 9223372036854775807 := Nat.le_trans k2.le k2.mx
    have hc2 : (0 ≤ (r2.n : Int) ∧ (r2.n : Int) ≤ 0) ∨ (1 ≤ (r2.n : Int) ∧ (r2.n : Int) ≤ 1) ∨ (2 ≤ (r2.n : Int) ∧ (r2.n : Int) ≤ 2) ∨ (3 ≤ (r2.n : Int) ∧ (r2.n : Int) ≤ 3) ∨ (4 ≤ (r2.n : Int) ∧ (r2.n : Int) ≤ 4) ∨ (5 ≤ (r2.n : Int) ∧ (r2.n : Int) ≤ 5) ∨ (6 ≤ (r2.n : Int) ∧ (r2.n : Int) ≤ 6) ∨ (7 ≤ (r2.n : Int) ∧ (r2.n : Int) ≤ 7) ∨ (8 ≤ (r2.n : Int) ∧ (r2.n : Int) ≤ 8) ∨ (9 ≤ (r2.n : Int) ∧ (r2.n : Int) ≤ 9) ∨ (10 ≤ (r2.n : Int) ∧ (r2.n : Int) ≤ 10) ∨ (11 ≤ (r2.n : Int) ∧ (r2.n : Int) ≤ 11) ∨ (12 ≤ (r2.n : Int) ∧ (r2.n : Int) ≤ 12) ∨ (13 ≤ (r2.n : Int) ∧ (r2.n : Int) ≤ 13) ∨ (14 ≤ (r2.n : Int) ∧ (r2.n : Int) ≤ 14) ∨ (15 ≤ (r2.n : Int) ∧ (r2.n : Int) ≤ 15) ∨ (16 ≤ (r2.n : Int) ∧ (r2.n : Int) ≤ 16) ∨ (17 ≤ (r2.n : Int) ∧ (r2.n : Int) ≤ 17) ∨ (18 ≤ (r2.n : Int) ∧ (r2.n : Int) ≤ 1000) ∨ (1001 ≤ (r2.n : Int) ∧ (r2.n : Int) ≤ 9223372036854775807) := by omega
    rcases hc2 with hc2 | hc2 | hc2 | hc2 | hc2 | hc2 | hc2 | hc2 | hc2 | hc2 | hc2 | hc2 | hc2 | hc2 | hc2 | hc2 | hc2 | hc2 | hc2 | hc2
    · have hc0 : ((-9223372036854775808) ≤ a0 ∧ a0 ≤ 2) ∨ (3 ≤ a0 ∧ a0 ≤ 127) ∨ (128 ≤ a0 ∧ a0 ≤ 250) ∨ (251 ≤ a0 ∧ a0 ≤ 9223372036854775807) := by omega
      clear h0
      rcases hc0 with h0 | h0 | h0 | h0
      · exact pLL_any w a0 (by omega) a1 (by omega) _ r2.n r2.c (by omega)
      · exact pZA_any w a0 (by omega) a1 (by omega) _ r2.n r2.c (by omega)
      · exact pZB_any w a0 (by omega) a1 (by omega) _ r2.n r2.c (by omega)
      · exact pLH_any w a0 (by omega) a1 (by omega) _ r2.n r2.c (by omega)
    · have hc0 : ((-9223372036854775808) ≤ a0 ∧ a0 ≤ 2) ∨ (3 ≤ a0 ∧ a0 ≤ 127) ∨ (128 ≤ a0 ∧ a0 ≤ 250) ∨ (251 ≤ a0 ∧ a0 ≤ 9223372036854775807) := by omega
      clear h0
      rcases hc0 with h0 | h0 | h0 | h0
      · exact pLL_any w a0 (by omega) a1 (by omega) _ r2.n r2.c (by omega)
      · exact pS1A_any w a0 (by omega) a1 (by omega) r2 k2 (by omega)
      · exact pS1B_any w a0 (by omega) a1 (by omega) r2 k2 (by omega)
      · exact pLH_any w a0 (by omega) a1 (by omega) _ r2.n r2.c (by omega)
    · have hc0 : ((-9223372036854775808) ≤ a0 ∧ a0 ≤ 2) ∨ (3 ≤ a0 ∧ a0 ≤ 127) ∨ (128 ≤ a0 ∧ a0 ≤ 250) ∨ (251 ≤ a0 ∧ a0 ≤ 9223372036854775807) := by omega
      clear h0
      rcases hc0 with h0 | h0 | h0 | h0
      · exact pLL_any w a0 (by omega) a1 (by omega) _ r2.n r2.c (by omega)
      · exact pS2A_any w a0 (by omega) a1 (by omega) r2 k2 (by omega)
      · exact pS2B_any w a0 (by omega) a1 (by omega) r2 k2 (by omega)
      · exact pLH_any w a0 (by omega) a1 (by omega) _ r2.n r2.c (by omega)
    · have hc0 : ((-9223372036854775808) ≤ a0 ∧ a0 ≤ 2) ∨ (3 ≤ a0 ∧ a0 ≤ 127) ∨ (128 ≤ a0 ∧ a0 ≤ 250) ∨ (251 ≤ a0 ∧ a0 ≤ 9223372036854775807) := by omega
      clear h0
      rcases hc0 with h0 | h0 | h0 | h0
      · exact pLL_any w a0 (by omega) a1 (by omega) _ r2.n r2.c (by omega)
      · exact pS3A_any w a0 (by omega) a1 (by omega) r2 k2 (by omega)
      · exact pS3B_any w a0 (by omega) a1 (by omega) r2 k2 (by omega)
      · exact pLH_any w a0 (by omega) a1 (by omega) _ r2.n r2.c (by omega)
    · have hc0 : ((-9223372036854775808) ≤ a0 ∧ a0 ≤ 2) ∨ (3 ≤ a0 ∧ a0 ≤ 127) ∨ (128 ≤ a0 ∧ a0 ≤ 250) ∨ (251 ≤ a0 ∧ a0 ≤ 9223372036854775807) := by omega
      clear h0
      rcases hc0 with h0 | h0 | h0 | h0
      · exact pLL_any w a0 (by omega) a1 (by omega) _ r2.n r2.c (by omega)
      · exact pS4A_any w a0 (by omega) a1 (by omega) r2 k2 (by omega)
      · exact pS4B_any w a0 (by omega) a1 (by omega) r2 k2 (by omega)
      · exact pLH_any w a0 (by omega) a1 (by omega) _ r2.n r2.c (by omega)
    · have hc0 : ((-9223372036854775808) ≤ a0 ∧ a0 ≤ 2) ∨ (3 ≤ a0 ∧ a0 ≤ 127) ∨ (128 ≤ a0 ∧ a0 ≤ 250) ∨ (251 ≤ a0 ∧ a0 ≤ 9223372036854775807) := by omega
      clear h0
      rcases hc0 with h0 | h0 | h0 | h0
      · exact pLL_any w a0 (by omega) a1 (by omega) _ r2.n r2.c (by omega)
      · exact pS5A_any w a0 (by omega) a1 (by omega) r2 k2 (by omega)
      · exact pS5B_any w a0 (by omega) a1 (by omega) r2 k2 (by omega)
      · exact pLH_any w a0 (by omega) a1 (by omega) _ r2.n r2.c (by omega)
    · have hc0 : ((-9223372036854775808) ≤ a0 ∧ a0 ≤ 2) ∨ (3 ≤ a0 ∧ a0 ≤ 127) ∨ (128 ≤ a0 ∧ a0 ≤ 250) ∨ (251 ≤ a0 ∧ a0 ≤ 9223372036854775807) := by omega
      clear h0
      rcases hc0 with h0 | h0 | h0 | h0
      · exact pLL_any w a0 (by omega) a1 (by omega) _ r2.n r2.c (by omega)
      · exact pS6A_any w a0 (by omega) a1 (by omega) r2 k2 (by omega)
      · exact pS6B_any w a0 (by omega) a1 (by omega) r2 k2 (by omega)
      · exact pLH_any w a0 (by omega) a1 (by omega) _ r2.n r2.c (by omega)
    · have hc0 : ((-9223372036854775808) ≤ a0 ∧ a0 ≤ 2) ∨ (3 ≤ a0 ∧ a0 ≤ 127) ∨ (128 ≤ a0 ∧ a0 ≤ 250) ∨ (251 ≤ a0 ∧ a0 ≤ 9223372036854775807) := by omega
      clear h0
      rcases hc0 with h0 | h0 | h0 | h0
      · exact pLL_any w a0 (by omega) a1 (by omega) _ r2.n r2.c (by omega)
      · exact pS7A_any w a0 (by omega) a1 (by omega) r2 k2 (by omega)
      · exact pS7B_any w a0 (by omega) a1 (by omega) r2 k2 (by omega)
      · exact pLH_any w a0 (by omega) a1 (by omega) _ r2.n r2.c (by omega)
    · have hc0 : ((-9223372036854775808) ≤ a0 ∧ a0 ≤ 2) ∨ (3 ≤ a0 ∧ a0 ≤ 127) ∨ (128 ≤ a0 ∧ a0 ≤ 250) ∨ (251 ≤ a0 ∧ a0 ≤ 9223372036854775807) := by omega
      clear h0
      rcases hc0 with h0 | h0 | h0 | h0
      · exact pLL_any w a0 (by omega) a1 (by omega) _ r2.n r2.c (by omega)
      · exact pS8A_any w a0 (by omega) a1 (by omega) r2 k2 (by omega)
      · exact pS8B_any w a0 (by omega) a1 (by omega) r2 k2 (by omega)
      · exact pLH_any w a0 (by omega) a1 (by omega) _ r2.n r2.c (by omega)
    · have hc0 : ((-9223372036854775808) ≤ a0 ∧ a0 ≤ 2) ∨ (3 ≤ a0 ∧ a0 ≤ 127) ∨ (128 ≤ a0 ∧ a0 ≤ 250) ∨ (251 ≤ a0 ∧ a0 ≤ 9223372036854775807) := by omega
      clear h0
      rcases hc0 with h0 | h0 | h0 | h0
      · exact pLL_any w a0 (by omega) a1 (by omega) _ r2.n r2.c (by omega)
      · exact pS9A_any w a0 (by omega) a1 (by omega) r2 k2 (by omega)
      · exact pS9B_any w a0 (by omega) a1 (by omega) r2 k2 (by omega)
      · exact pLH_any w a0 (by omega) a1 (by omega) _ r2.n r2.c (by omega)
    · have hc0 : ((-9223372036854775808) ≤ a0 ∧ a0 ≤ 2) ∨ (3 ≤ a0 ∧ a0 ≤ 127) ∨ (128 ≤ a0 ∧ a0 ≤ 250) ∨ (251 ≤ a0 ∧ a0 ≤ 9223372036854775807) := by omega
      clear h0
      rcases hc0 with h0 | h0 | h0 | h0
      · exact pLL_any w a0 (by omega) a1 (by omega) _ r2.n r2.c (by omega)
      · exact pS10A_any w a0 (by omega) a1 (by omega) r2 k2 (by omega)
      · exact pS10B_any w a0 (by omega) a1 (by omega) r2 k2 (by omega)
      · exact pLH_any w a0 (by omega) a1 (by omega) _ r2.n r2.c (by omega)
    · have hc0 : ((-9223372036854775808) ≤ a0 ∧ a0 ≤ 2) ∨ (3 ≤ a0 ∧ a0 ≤ 127) ∨ (128 ≤ a0 ∧ a0 ≤ 250) ∨ (251 ≤ a0 ∧ a0 ≤ 9223372036854775807) := by omega
      clear h0
      rcases hc0 with h0 | h0 | h0 | h0
      · exact pLL_any w a0 (by omega) a1 (by omega) _ r2.n r2.c (by omega)
      · exact pS11A_any w a0 (by omega) a1 (by omega) r2 k2 (by omega)
      · exact pS11B_any w a0 (by omega) a1 (by omega) r2 k2 (by omega)
      · exact pLH_any w a0 (by omega) a1 (by omega) _ r2.n r2.c (by omega)
    · have hc0 : ((-9223372036854775808) ≤ a0 ∧ a0 ≤ 2) ∨ (3 ≤ a0 ∧ a0 ≤ 127) ∨ (128 ≤ a0 ∧ a0 ≤ 250) ∨ (251 ≤ a0 ∧ a0 ≤ 9223372036854775807) := by omega
      clear h0
      rcases hc0 with h0 | h0 | h0 | h0
      · exact pLL_any w a0 (by omega) a1 (by omega) _ r2.n r2.c (by omega)
      · exact pS12A_any w a0 (by omega) a1 (by omega) r2 k2 (by omega)
      · exact pS12B_any w a0 (by omega) a1 (by omega) r2 k2 (by omega)
      · exact pLH_any w a0 (by omega) a1 (by omega) _ r2.n r2.c (by omega)
    · have hc0 : ((-9223372036854775808) ≤ a0 ∧ a0 ≤ 2) ∨ (3 ≤ a0 ∧ a0 ≤ 127) ∨ (128 ≤ a0 ∧ a0 ≤ 250) ∨ (251 ≤ a0 ∧ a0 ≤ 9223372036854775807) := by omega
      clear h0
      rcases hc0 with h0 | h0 | h0 | h0
      · exact pLL_any w a0 (by omega) a1 (by omega) _ r2.n r2.c (by omega)
      · exact pS13A_any w a0 (by omega) a1 (by omega) r2 k2 (by omega)
      · exact pS13B_any w a0 (by omega) a1 (by omega) r2 k2 (by omega)
      · exact pLH_any w a0 (by omega) a1 (by omega) _ r2.n r2.c (by omega)
    · have hc0 : ((-9223372036854775808) ≤ a0 ∧ a0 ≤ 2) ∨ (3 ≤ a0 ∧ a0 ≤ 127) ∨ (128 ≤ a0 ∧ a0 ≤ 250) ∨ (251 ≤ a0 ∧ a0 ≤ 9223372036854775807) := by omega
      clear h0
      rcases hc0 with h0 | h0 | h0 | h0
      · exact pLL_any w a0 (by omega) a1 (by omega) _ r2.n r2.c (by omega)
      · exact pS14A_any w a0 (by omega) a1 (by omega) r2 k2 (by omega)
      · exact pS14B_any w a0 (by omega) a1 (by omega) r2 k2 (by omega)
      · exact pLH_any w a0 (by omega) a1 (by omega) _ r2.n r2.c (by omega)
    · have hc0 : ((-9223372036854775808) ≤ a0 ∧ a0 ≤ 2) ∨ (3 ≤ a0 ∧ a0 ≤ 127) ∨ (128 ≤ a0 ∧ a0 ≤ 250) ∨ (251 ≤ a0 ∧ a0 ≤ 9223372036854775807) := by omega
      clear h0
      rcases hc0 with h0 | h0 | h0 | h0
      · exact pLL_any w a0 (by omega) a1 (by omega) _ r2.n r2.c (by omega)
      · exact pS15A_any w a0 (by omega) a1 (by omega) r2 k2 (by omega)
      · exact pS15B_any w a0 (by omega) a1 (by omega) r2 k2 (by omega)
      · exact pLH_any w a0 (by omega) a1 (by omega) _ r2.n r2.c (by omega)
    · have hc0 : ((-9223372036854775808) ≤ a0 ∧ a0 ≤ 2) ∨ (3 ≤ a0 ∧ a0 ≤ 127) ∨ (128 ≤ a0 ∧ a0 ≤ 250) ∨ (251 ≤ a0 ∧ a0 ≤ 9223372036854775807) := by omega
      clear h0
      rcases hc0 with h0 | h0 | h0 | h0
      · exact pLL_any w a0 (by omega) a1 (by omega) _ r2.n r2.c (by omega)
      · exact pS16A_any w a0 (by omega) a1 (by omega) r2 k2 (by omega)
      · exact pS16B_any w a0 (by omega) a1 (by omega) r2 k2 (by omega)
      · exact pLH_any w a0 (by omega) a1 (by omega) _ r2.n r2.c (by omega)
    · have hc0 : ((-9223372036854775808) ≤ a0 ∧ a0 ≤ 2) ∨ (3 ≤ a0 ∧ a0 ≤ 127) ∨ (128 ≤ a0 ∧ a0 ≤ 250) ∨ (251 ≤ a0 ∧ a0 ≤ 9223372036854775807) := by omega
      clear h0
      rcases hc0 with h0 | h0 | h0 | h0
      · exact pLL_any w a0 (by omega) a1 (by omega) _ r2.n r2.c (by omega)
      · exact pS17A_any w a0 (by omega) a1 (by omega) r2 k2 (by omega)
      · exact pS17B_any w a0 (by omega) a1 (by omega) r2 k2 (by omega)
      · exact pLH_any w a0 (by omega) a1 (by omega) _ r2.n r2.c (by omega)
    · have hc0 : ((-9223372036854775808) ≤ a0 ∧ a0 ≤ 2) ∨ (3 ≤ a0 ∧ a0 ≤ 127) ∨ (128 ≤ a0 ∧ a0 ≤ 250) ∨ (251 ≤ a0 ∧ a0 ≤ 9223372036854775807) := by omega
      clear h0
      rcases hc0 with h0 | h0 | h0 | h0
      · exact pLL_any w a0 (by omega) a1 (by omega) _ r2.n r2.c (by omega)
      · exact pMA_any w a0 (by omega) a1 (by omega) r2 k2 (by omega)
      · exact pMB_any w a0 (by omega) a1 (by omega) r2 k2 (by omega)
      · exact pLH_any w a0 (by omega) a1 (by omega) _ r2.n r2.c (by omega)
    · exact pLO_any w a0 (by omega) a1 (by omega) _ r2.n r2.c (by omega)

set_option maxRecDepth 100000 in
theorem lifted (os : Os) (started : os.Started) (H : Type) (enc : TypeId × Value → H) :
    ReturnsInHanded {} Tryz.checked os 9 .any (Rows.topLeasesSpec.pre6 enc Tryz.prog Tryz.f9 Rows.topLeasesRow.domain false) (Rows.topLeasesSpec.post enc Tryz.prog Tryz.f9 false true false false) := by
  refine returnsInHanded_of_change (C := Tryz.checked) own started (by kernel_rfl) Tryz.func9
    (ChangeSpec.witness6 (enc := enc) (C := Tryz.checked) false ⟨#[], #[.int .i64 0, .int .i64 0, .slice none 0 0], []⟩ 8 (by kernel_rfl) (by kernel_rfl) (by kernel_rfl) (by kernel_rfl)) ?_
  intro W base args ds gs before hval0 hW hcnd _
  have hval : ∀ (j : Nat) t v, Tryz.f9.params[j]? = some t → args[j]? = some v → Value.okWide Tryz.prog W .any base t v := hval0
  have hW' := hW
  obtain ⟨p, q, hA0, hV, rfl, hfz, hnd⟩ := hW
  have hA : DataW.TrodAll enc Tryz.prog W 0 (fun _ => true) true Tryz.f9.params.toList args.toList ds p := hA0
  rw [Tryz.params9] at hA hval
  obtain ⟨v0, vs0, d0, ds0, p_0, q0, hargs, rfl, rfl, k0, r0⟩ := trodAll_cons hA
  obtain ⟨v1, vs1, d1, ds1, p_1, q1, rfl, rfl, rfl, k1, r1⟩ := trodAll_cons r0
  obtain ⟨v2, vs2, d2, ds2, p_2, q2, rfl, rfl, rfl, k2, r2⟩ := trodAll_cons r1
  obtain ⟨rfl, rfl, rfl⟩ := trodAll_nil r2
  obtain rfl : args = #[v0, v1, v2] := by cases args; simp_all
  obtain ⟨rfl, rfl⟩ := trodVars_none hV
  have lt0 : ∀ x ∈ p_0, x.block < W.heap.size := by obtain ⟨m, hm⟩ := k0; exact DataW.trod_lt m _ _ _ hm
  have lt1 : ∀ x ∈ p_1, x.block < W.heap.size := by obtain ⟨m, hm⟩ := k1; exact DataW.trod_lt m _ _ _ hm
  have lt2 : ∀ x ∈ p_2, x.block < W.heap.size := by obtain ⟨m, hm⟩ := k2; exact DataW.trod_lt m _ _ _ hm
  obtain ⟨a0, rfl, hh0⟩ := open_int (hval 0 3 v0 rfl rfl)
  obtain ⟨a1, rfl, hh1⟩ := open_int (hval 1 3 v1 rfl rfl)
  have hrow2 : RowIn W v2 := by
    obtain ⟨fuel, hf⟩ := k2
    obtain ⟨a0, len0, cap0, rfl⟩ := okWide_slice Tryz.underlying22 (hval 2 22 v2 rfl rfl)
    exact open_row Tryz.underlying22 Tryz.underlying5 (by kernel_rfl) hf
  clear hA0 hval0
  refine (walk W a0 hh0 a1 hh1 _ hrow2).mono fun e W' ⟨he, hg⟩ => ?_
  subst he
  have bel := hg.below0
  exact ⟨_, rfl, _, _, _, [], _, [], hW', trodAll_mk1 (shut_bool Tryz.underlying4 _), (trodAll_cons_mk (Below.trod laid_out (by kernel_rfl) (of_decide_eq_true (by kernel_rfl)) k0 bel lt0) (trodAll_cons_mk (Below.trod laid_out (by kernel_rfl) (of_decide_eq_true (by kernel_rfl)) k1 bel lt1) (trodAll_cons_mk (Below.trod laid_out (by kernel_rfl) (of_decide_eq_true (by kernel_rfl)) k2 bel lt2) trodAll_mk0))), rfl, bel.frame _, fun h => by cases h⟩

theorem over : Rows.topLeasesRow.holds Tryz.pinned (OpenSpec.ofChange Rows.topLeasesSpec) :=
  OpenClaim.holds_of_wide 9 Tryz.f9 rfl rfl rfl rfl rfl rfl rfl ⟨rfl, rfl, rfl, rfl, rfl⟩ rfl rfl rfl rfl rfl j_func Tryz.func9 joined
    (of_decide_eq_true (by kernel_rfl)) (by unfold Func.isWrapper; first | (rw [if_pos (by decide +kernel)]; kernel_rfl) | (rw [if_neg (by decide +kernel)]; exact ⟨rfl, rfl⟩))
    (fun os started H enc _ => lifted os started H enc)

theorem proved : Rows.TopLeasesSaid := over
end Go.Proofs.YtnhpfkjblnclnaaGreat.topLeases

/-
  Never more is sent than the peer's window lets, and into a closed window one byte at a time (wharflaw17.ConnWindow). No condition.
-/
import Derived.Test.YtjblchdoalipeaaRows
import Derived.WalkKit
import Derived.ProofKit
import Derived.OpenShut
import Derived.Below
import Derived.Test.YtjblchdoalipeaaPaConnWindowQ0
import Derived.Test.YtjblchdoalipeaaPaConnWindowQ1
import Derived.Test.YtjblchdoalipeaaPaConnWindowQ2
import Derived.Test.YtjblchdoalipeaaPaConnWindowQ3
import Derived.Test.YtjblchdoalipeaaPaConnWindowQ4
import Derived.Test.YtjblchdoalipeaaPaConnWindowQ5
import Derived.Test.YtjblchdoalipeaaPaConnWindowQ6
import Derived.Test.YtjblchdoalipeaaPaConnWindowQ7
import Derived.Test.YtjblchdoalipeaaPaConnWindowQ8
import Derived.Test.YtjblchdoalipeaaPaConnWindowQ9
import Derived.Test.YtjblchdoalipeaaPaConnWindowQ10
import Derived.Test.YtjblchdoalipeaaPaConnWindowQ11
import Derived.Test.YtjblchdoalipeaaPaConnWindowQ12
import Derived.Test.YtjblchdoalipeaaPaConnWindowQ13
import Derived.Test.YtjblchdoalipeaaPaConnWindowQ14
import Derived.Test.YtjblchdoalipeaaPaConnWindowQ15
import Derived.Test.YtjblchdoalipeaaPaConnWindowQ16
import Derived.Test.YtjblchdoalipeaaPaConnWindowQ17
import Derived.Test.YtjblchdoalipeaaPaConnWindowQ18
import Derived.Test.YtjblchdoalipeaaPaConnWindowQ19
import Derived.Test.YtjblchdoalipeaaPaConnWindowQ20
import Derived.Test.YtjblchdoalipeaaPaConnWindowQ21
import Derived.Test.YtjblchdoalipeaaPaConnWindowQ22
import Derived.Test.YtjblchdoalipeaaPaConnWindowQ23
import Derived.Test.YtjblchdoalipeaaPaConnWindowQ24
import Derived.Test.YtjblchdoalipeaaPaConnWindowQ25
import Derived.Test.YtjblchdoalipeaaJfConnWindow
namespace Go.Proofs.Ytjblchdoalipeaa.connWindow
open Go.ChangeShapes Go.WideShapes Go.ChangeAt Go.RowKit
open Go
set_option linter.unusedVariables false
set_option linter.unusedSimpArgs false

theorem own : ownKnob Try.prog.godebug = none := by kernel_rfl
section
variable {P : Program} {w : World} {r : Reach} {base : Nat} {t : TypeId} {v : Value}
theorem cell_int {k : IntKind} (ht : P.underlying t = some (.int k)) (h : Cell.okWide P w r base t v) : ∃ n, v = .int k n ∧ k.min ≤ n ∧ n ≤ k.max := by
  simp only [Cell.okWide, ht] at h
  cases v <;> simp_all [Cell.ok, IntKind.has]
theorem cell_bool (ht : P.underlying t = some .bool) (h : Cell.okWide P w r base t v) : ∃ b, v = .bool b := by
  simp only [Cell.okWide, ht] at h
  cases v <;> simp_all [Cell.ok]
theorem cell_slice {e : TypeId} (ht : P.underlying t = some (.slice e)) (h : Cell.okWide P w r base t v) : ∃ a n c, v = .slice a n c := by
  simp only [Cell.okWide, ht] at h
  cases v <;> simp_all [Cell.ok]
end
theorem in_i64 {n : Int} (h : IntKind.i64.min ≤ n ∧ n ≤ IntKind.i64.max) : (-9223372036854775808) ≤ n ∧ n ≤ 9223372036854775807 := by
  rw [show IntKind.i64.min = (-9223372036854775808) by decide, show IntKind.i64.max = 9223372036854775807 by decide] at h
  exact h
set_option maxRecDepth 100000 in
theorem open_int {W : World} {base : Nat} {v : Value} (h : Value.okWide Try.prog W .any base 3 v) : ∃ (a0 : Int), v = .int .i64 a0 ∧ ((-9223372036854775808) ≤ a0 ∧ a0 ≤ 9223372036854775807) := by
    simp only [Value.okWide, Try.underlying3] at h
    obtain ⟨a0, rfl, h0⟩ := cell_int Try.underlying3 h
    have h0 := in_i64 h0
    exact ⟨_, rfl, h0⟩

theorem walk (w : World) (v0 : Value) (v0_in : RowIn w v0) (a1 : Int) (h1 : ((-9223372036854775808) ≤ a1 ∧ a1 ≤ 9223372036854775807)) (a2 : Int) (h2 : ((-9223372036854775808) ≤ a2 ∧ a2 ≤ 9223372036854775807)) : Calls Try.prog 3 #[v0, .int .i64 a1, .int .i64 a2] w fun e w' => e = .returned (.bool true) ∧ Kp [] w w' := by
  rcases v0_in with rfl | ⟨q0, rfl⟩ | ⟨bb0, oo0, nn0, cc0, zz0, rfl, x1_0, x2_0, x3_0, x4_0, x5_0⟩
  · have hc1 : ((-9223372036854775808) ≤ a1 ∧ a1 ≤ (-1)) ∨ (0 ≤ a1 ∧ a1 ≤ 0) ∨ (1 ≤ a1 ∧ a1 ≤ 1072) ∨ (1073 ≤ a1 ∧ a1 ≤ 5000) ∨ (5001 ≤ a1 ∧ a1 ≤ 9223372036854775807) := by omega
    clear h1
    rcases hc1 with h1 | h1 | h1 | h1 | h1
    · exact pWL_any w none 0 0 (by omega) a1 (by omega) a2 (by omega)
    · have hc2 : ((-9223372036854775808) ≤ a2 ∧ a2 ≤ (-1)) ∨ (0 ≤ a2 ∧ a2 ≤ 0) ∨ (1 ≤ a2 ∧ a2 ≤ 1500) ∨ (1501 ≤ a2 ∧ a2 ≤ 9223372036854775807) := by omega
      clear h2
      rcases hc2 with h2 | h2 | h2 | h2
      · exact pTL_any w none 0 0 (by omega) a1 (by omega) a2 (by omega)
      · exact pZ0t_any w none 0 0 (by omega) a1 (by omega) a2 (by omega)
      · exact pZ0_any w none 0 0 (by omega) a1 (by omega) a2 (by omega)
      · exact pTH_any w none 0 0 (by omega) a1 (by omega) a2 (by omega)
    · have hc2 : ((-9223372036854775808) ≤ a2 ∧ a2 ≤ (-1)) ∨ (0 ≤ a2 ∧ a2 ≤ 0) ∨ (1 ≤ a2 ∧ a2 ≤ 1500) ∨ (1501 ≤ a2 ∧ a2 ≤ 9223372036854775807) := by omega
      clear h2
      rcases hc2 with h2 | h2 | h2 | h2
      · exact pTL_any w none 0 0 (by omega) a1 (by omega) a2 (by omega)
      · exact pZ1t_any w none 0 0 (by omega) a1 (by omega) a2 (by omega)
      · exact pZ1_any w none 0 0 (by omega) a1 (by omega) a2 (by omega)
      · exact pTH_any w none 0 0 (by omega) a1 (by omega) a2 (by omega)
    · have hc2 : ((-9223372036854775808) ≤ a2 ∧ a2 ≤ (-1)) ∨ (0 ≤ a2 ∧ a2 ≤ 0) ∨ (1 ≤ a2 ∧ a2 ≤ 1500) ∨ (1501 ≤ a2 ∧ a2 ≤ 9223372036854775807) := by omega
      clear h2
      rcases hc2 with h2 | h2 | h2 | h2
      · exact pTL_any w none 0 0 (by omega) a1 (by omega) a2 (by omega)
      · exact pZ2t_any w none 0 0 (by omega) a1 (by omega) a2 (by omega)
      · exact pZ2_any w none 0 0 (by omega) a1 (by omega) a2 (by omega)
      · exact pTH_any w none 0 0 (by omega) a1 (by omega) a2 (by omega)
    · exact pWH_any w none 0 0 (by omega) a1 (by omega) a2 (by omega)
  · have hc1 : ((-9223372036854775808) ≤ a1 ∧ a1 ≤ (-1)) ∨ (0 ≤ a1 ∧ a1 ≤ 0) ∨ (1 ≤ a1 ∧ a1 ≤ 1072) ∨ (1073 ≤ a1 ∧ a1 ≤ 5000) ∨ (5001 ≤ a1 ∧ a1 ≤ 9223372036854775807) := by omega
    clear h1
    rcases hc1 with h1 | h1 | h1 | h1 | h1
    · exact pWL_any w (some q0) 0 0 (by omega) a1 (by omega) a2 (by omega)
    · have hc2 : ((-9223372036854775808) ≤ a2 ∧ a2 ≤ (-1)) ∨ (0 ≤ a2 ∧ a2 ≤ 0) ∨ (1 ≤ a2 ∧ a2 ≤ 1500) ∨ (1501 ≤ a2 ∧ a2 ≤ 9223372036854775807) := by omega
      clear h2
      rcases hc2 with h2 | h2 | h2 | h2
      · exact pTL_any w (some q0) 0 0 (by omega) a1 (by omega) a2 (by omega)
      · exact pZ0t_any w (some q0) 0 0 (by omega) a1 (by omega) a2 (by omega)
      · exact pZ0_any w (some q0) 0 0 (by omega) a1 (by omega) a2 (by omega)
      · exact pTH_any w (some q0) 0 0 (by omega) a1 (by omega) a2 (by omega)
    · have hc2 : ((-9223372036854775808) ≤ a2 ∧ a2 ≤ (-1)) ∨ (0 ≤ a2 ∧ a2 ≤ 0) ∨ (1 ≤ a2 ∧ a2 ≤ 1500) ∨ (1501 ≤ a2 ∧ a2 ≤ 9223372036854775807) := by omega
      clear h2
      rcases hc2 with h2 | h2 | h2 | h2
      · exact pTL_any w (some q0) 0 0 (by omega) a1 (by omega) a2 (by omega)
      · exact pZ1t_any w (some q0) 0 0 (by omega) a1 (by omega) a2 (by omega)
      · exact pZ1_any w (some q0) 0 0 (by omega) a1 (by omega) a2 (by omega)
      · exact pTH_any w (some q0) 0 0 (by omega) a1 (by omega) a2 (by omega)
    · have hc2 : ((-9223372036854775808) ≤ a2 ∧ a2 ≤ (-1)) ∨ (0 ≤ a2 ∧ a2 ≤ 0) ∨ (1 ≤ a2 ∧ a2 ≤ 1500) ∨ (1501 ≤ a2 ∧ a2 ≤ 9223372036854775807) := by omega
      clear h2
      rcases hc2 with h2 | h2 | h2 | h2
      · exact pTL_any w (some q0) 0 0 (by omega) a1 (by omega) a2 (by omega)
      · exact pZ2t_any w (some q0) 0 0 (by omega) a1 (by omega) a2 (by omega)
      · exact pZ2_any w (some q0) 0 0 (by omega) a1 (by omega) a2 (by omega)
      · exact pTH_any w (some q0) 0 0 (by omega) a1 (by omega) a2 (by omega)
    · exact pWH_any w (some q0) 0 0 (by omega) a1 (by omega) a2 (by omega)
  · obtain ⟨r0, hr0, k0⟩ : ∃ r : RowD, r = ⟨nn0, bb0, oo0, cc0, zz0⟩ ∧ r.Ok w := ⟨_, rfl, ⟨x1_0, x2_0, x3_0, x4_0, x5_0⟩⟩
    have hv0 : Value.slice (some ⟨bb0, oo0, none⟩) nn0 cc0 = r0.v := by rw [hr0]; rfl
    rw [hv0]
    clear hr0 hv0 x1_0 x2_0 x3_0 x4_0 x5_0
    have mx0 : r0.n ≤ 9223372036854775807 := Nat.le_trans k0.le k0.mx
    have hc0 : (0 ≤ (r0.n : Int) ∧ (r0.n : Int) ≤ 0) ∨ (1 ≤ (r0.n : Int) ∧ (r0.n : Int) ≤ 1) ∨ (2 ≤ (r0.n : Int) ∧ (r0.n : Int) ≤ 535) ∨ (536 ≤ (r0.n : Int) ∧ (r0.n : Int) ≤ 536) ∨ (537 ≤ (r0.n : Int) ∧ (r0.n : Int) ≤ 1071) ∨ (1072 ≤ (r0.n : Int) ∧ (r0.n : Int) ≤ 1072) ∨ (1073 ≤ (r0.n : Int) ∧ (r0.n : Int) ≤ 1607) ∨ (1608 ≤ (r0.n : Int) ∧ (r0.n : Int) ≤ 6000) ∨ (6001 ≤ (r0.n : Int) ∧ (r0.n : Int) ≤ 9223372036854775807) := by omega
    rcases hc0 with hc0 | hc0 | hc0 | hc0 | hc0 | hc0 | hc0 | hc0 | hc0
    · have hc1 : ((-9223372036854775808) ≤ a1 ∧ a1 ≤ (-1)) ∨ (0 ≤ a1 ∧ a1 ≤ 0) ∨ (1 ≤ a1 ∧ a1 ≤ 1072) ∨ (1073 ≤ a1 ∧ a1 ≤ 5000) ∨ (5001 ≤ a1 ∧ a1 ≤ 9223372036854775807) := by omega
      clear h1
      rcases hc1 with h1 | h1 | h1 | h1 | h1
      · exact pWL_any w _ r0.n r0.c (by omega) a1 (by omega) a2 (by omega)
      · have hc2 : ((-9223372036854775808) ≤ a2 ∧ a2 ≤ (-1)) ∨ (0 ≤ a2 ∧ a2 ≤ 0) ∨ (1 ≤ a2 ∧ a2 ≤ 1500) ∨ (1501 ≤ a2 ∧ a2 ≤ 9223372036854775807) := by omega
        clear h2
        rcases hc2 with h2 | h2 | h2 | h2
        · exact pTL_any w _ r0.n r0.c (by omega) a1 (by omega) a2 (by omega)
        · exact pZ0t_any w _ r0.n r0.c (by omega) a1 (by omega) a2 (by omega)
        · exact pZ0_any w _ r0.n r0.c (by omega) a1 (by omega) a2 (by omega)
        · exact pTH_any w _ r0.n r0.c (by omega) a1 (by omega) a2 (by omega)
      · have hc2 : ((-9223372036854775808) ≤ a2 ∧ a2 ≤ (-1)) ∨ (0 ≤ a2 ∧ a2 ≤ 0) ∨ (1 ≤ a2 ∧ a2 ≤ 1500) ∨ (1501 ≤ a2 ∧ a2 ≤ 9223372036854775807) := by omega
        clear h2
        rcases hc2 with h2 | h2 | h2 | h2
        · exact pTL_any w _ r0.n r0.c (by omega) a1 (by omega) a2 (by omega)
        · exact pZ1t_any w _ r0.n r0.c (by omega) a1 (by omega) a2 (by omega)
        · exact pZ1_any w _ r0.n r0.c (by omega) a1 (by omega) a2 (by omega)
        · exact pTH_any w _ r0.n r0.c (by omega) a1 (by omega) a2 (by omega)
      · have hc2 : ((-9223372036854775808) ≤ a2 ∧ a2 ≤ (-1)) ∨ (0 ≤ a2 ∧ a2 ≤ 0) ∨ (1 ≤ a2 ∧ a2 ≤ 1500) ∨ (1501 ≤ a2 ∧ a2 ≤ 9223372036854775807) := by omega
        clear h2
        rcases hc2 with h2 | h2 | h2 | h2
        · exact pTL_any w _ r0.n r0.c (by omega) a1 (by omega) a2 (by omega)
        · exact pZ2t_any w _ r0.n r0.c (by omega) a1 (by omega) a2 (by omega)
        · exact pZ2_any w _ r0.n r0.c (by omega) a1 (by omega) a2 (by omega)
        · exact pTH_any w _ r0.n r0.c (by omega) a1 (by omega) a2 (by omega)
      · exact pWH_any w _ r0.n r0.c (by omega) a1 (by omega) a2 (by omega)
    · have hc1 : ((-9223372036854775808) ≤ a1 ∧ a1 ≤ (-1)) ∨ (0 ≤ a1 ∧ a1 ≤ 0) ∨ (1 ≤ a1 ∧ a1 ≤ 535) ∨ (536 ≤ a1 ∧ a1 ≤ 1071) ∨ (1072 ≤ a1 ∧ a1 ≤ 5000) ∨ (5001 ≤ a1 ∧ a1 ≤ 9223372036854775807) := by omega
      clear h1
      rcases hc1 with h1 | h1 | h1 | h1 | h1 | h1
      · exact pWL_any w _ r0.n r0.c (by omega) a1 (by omega) a2 (by omega)
      · have hc2 : ((-9223372036854775808) ≤ a2 ∧ a2 ≤ (-1)) ∨ (0 ≤ a2 ∧ a2 ≤ 0) ∨ (1 ≤ a2 ∧ a2 ≤ 1500) ∨ (1501 ≤ a2 ∧ a2 ≤ 9223372036854775807) := by omega
        clear h2
        rcases hc2 with h2 | h2 | h2 | h2
        · exact pTL_any w _ r0.n r0.c (by omega) a1 (by omega) a2 (by omega)
        · exact pA0t_any w r0 k0 (by omega) a1 (by omega) a2 (by omega)
        · exact pA0_any w r0 k0 (by omega) a1 (by omega) a2 (by omega)
        · exact pTH_any w _ r0.n r0.c (by omega) a1 (by omega) a2 (by omega)
      · have hc2 : ((-9223372036854775808) ≤ a2 ∧ a2 ≤ (-1)) ∨ (0 ≤ a2 ∧ a2 ≤ 0) ∨ (1 ≤ a2 ∧ a2 ≤ 1500) ∨ (1501 ≤ a2 ∧ a2 ≤ 9223372036854775807) := by omega
        clear h2
        rcases hc2 with h2 | h2 | h2 | h2
        · exact pTL_any w _ r0.n r0.c (by omega) a1 (by omega) a2 (by omega)
        · exact pB0t_any w r0 k0 (by omega) a1 (by omega) a2 (by omega)
        · exact pB0_any w r0 k0 (by omega) a1 (by omega) a2 (by omega)
        · exact pTH_any w _ r0.n r0.c (by omega) a1 (by omega) a2 (by omega)
      · have hc2 : ((-9223372036854775808) ≤ a2 ∧ a2 ≤ (-1)) ∨ (0 ≤ a2 ∧ a2 ≤ 0) ∨ (1 ≤ a2 ∧ a2 ≤ 1500) ∨ (1501 ≤ a2 ∧ a2 ≤ 9223372036854775807) := by omega
        clear h2
        rcases hc2 with h2 | h2 | h2 | h2
        · exact pTL_any w _ r0.n r0.c (by omega) a1 (by omega) a2 (by omega)
        · exact pC0t_any w r0 k0 (by omega) a1 (by omega) a2 (by omega)
        · exact pC0_any w r0 k0 (by omega) a1 (by omega) a2 (by omega)
        · exact pTH_any w _ r0.n r0.c (by omega) a1 (by omega) a2 (by omega)
      · have hc2 : ((-9223372036854775808) ≤ a2 ∧ a2 ≤ (-1)) ∨ (0 ≤ a2 ∧ a2 ≤ 0) ∨ (1 ≤ a2 ∧ a2 ≤ 1500) ∨ (1501 ≤ a2 ∧ a2 ≤ 9223372036854775807) := by omega
        clear h2
        rcases hc2 with h2 | h2 | h2 | h2
        · exact pTL_any w _ r0.n r0.c (by omega) a1 (by omega) a2 (by omega)
        · exact pF0t_any w r0 k0 (by omega) a1 (by omega) a2 (by omega)
        · exact pF0_any w r0 k0 (by omega) a1 (by omega) a2 (by omega)
        · exact pTH_any w _ r0.n r0.c (by omega) a1 (by omega) a2 (by omega)
      · exact pWH_any w _ r0.n r0.c (by omega) a1 (by omega) a2 (by omega)
    · have hc1 : ((-9223372036854775808) ≤ a1 ∧ a1 ≤ (-1)) ∨ (0 ≤ a1 ∧ a1 ≤ 0) ∨ (1 ≤ a1 ∧ a1 ≤ 535) ∨ (536 ≤ a1 ∧ a1 ≤ 1071) ∨ (1072 ≤ a1 ∧ a1 ≤ 5000) ∨ (5001 ≤ a1 ∧ a1 ≤ 9223372036854775807) := by omega
      clear h1
      rcases hc1 with h1 | h1 | h1 | h1 | h1 | h1
      · exact pWL_any w _ r0.n r0.c (by omega) a1 (by omega) a2 (by omega)
      · have hc2 : ((-9223372036854775808) ≤ a2 ∧ a2 ≤ (-1)) ∨ (0 ≤ a2 ∧ a2 ≤ 0) ∨ (1 ≤ a2 ∧ a2 ≤ 1500) ∨ (1501 ≤ a2 ∧ a2 ≤ 9223372036854775807) := by omega
        clear h2
        rcases hc2 with h2 | h2 | h2 | h2
        · exact pTL_any w _ r0.n r0.c (by omega) a1 (by omega) a2 (by omega)
        · exact pA1t_any w r0 k0 (by omega) a1 (by omega) a2 (by omega)
        · exact pA1_any w r0 k0 (by omega) a1 (by omega) a2 (by omega)
        · exact pTH_any w _ r0.n r0.c (by omega) a1 (by omega) a2 (by omega)
      · have hc2 : ((-9223372036854775808) ≤ a2 ∧ a2 ≤ (-1)) ∨ (0 ≤ a2 ∧ a2 ≤ 0) ∨ (1 ≤ a2 ∧ a2 ≤ 1500) ∨ (1501 ≤ a2 ∧ a2 ≤ 9223372036854775807) := by omega
        clear h2
        rcases hc2 with h2 | h2 | h2 | h2
        · exact pTL_any w _ r0.n r0.c (by omega) a1 (by omega) a2 (by omega)
        · exact pB0t_any w r0 k0 (by omega) a1 (by omega) a2 (by omega)
        · exact pB0_any w r0 k0 (by omega) a1 (by omega) a2 (by omega)
        · exact pTH_any w _ r0.n r0.c (by omega) a1 (by omega) a2 (by omega)
      · have hc2 : ((-9223372036854775808) ≤ a2 ∧ a2 ≤ (-1)) ∨ (0 ≤ a2 ∧ a2 ≤ 0) ∨ (1 ≤ a2 ∧ a2 ≤ 1500) ∨ (1501 ≤ a2 ∧ a2 ≤ 9223372036854775807) := by omega
        clear h2
        rcases hc2 with h2 | h2 | h2 | h2
        · exact pTL_any w _ r0.n r0.c (by omega) a1 (by omega) a2 (by omega)
        · exact pC0t_any w r0 k0 (by omega) a1 (by omega) a2 (by omega)
        · exact pC0_any w r0 k0 (by omega) a1 (by omega) a2 (by omega)
        · exact pTH_any w _ r0.n r0.c (by omega) a1 (by omega) a2 (by omega)
      · have hc2 : ((-9223372036854775808) ≤ a2 ∧ a2 ≤ (-1)) ∨ (0 ≤ a2 ∧ a2 ≤ 0) ∨ (1 ≤ a2 ∧ a2 ≤ 1500) ∨ (1501 ≤ a2 ∧ a2 ≤ 9223372036854775807) := by omega
        clear h2
        rcases hc2 with h2 | h2 | h2 | h2
        · exact pTL_any w _ r0.n r0.c (by omega) a1 (by omega) a2 (by omega)
        · exact pF0t_any w r0 k0 (by omega) a1 (by omega) a2 (by omega)
        · exact pF0_any w r0 k0 (by omega) a1 (by omega) a2 (by omega)
        · exact pTH_any w _ r0.n r0.c (by omega) a1 (by omega) a2 (by omega)
      · exact pWH_any w _ r0.n r0.c (by omega) a1 (by omega) a2 (by omega)
    · have hc1 : ((-9223372036854775808) ≤ a1 ∧ a1 ≤ (-1)) ∨ (0 ≤ a1 ∧ a1 ≤ 0) ∨ (1 ≤ a1 ∧ a1 ≤ 535) ∨ (536 ≤ a1 ∧ a1 ≤ 536) ∨ (537 ≤ a1 ∧ a1 ≤ 1071) ∨ (1072 ≤ a1 ∧ a1 ≤ 5000) ∨ (5001 ≤ a1 ∧ a1 ≤ 9223372036854775807) := by omega
      clear h1
      rcases hc1 with h1 | h1 | h1 | h1 | h1 | h1 | h1
      · exact pWL_any w _ r0.n r0.c (by omega) a1 (by omega) a2 (by omega)
      · have hc2 : ((-9223372036854775808) ≤ a2 ∧ a2 ≤ (-1)) ∨ (0 ≤ a2 ∧ a2 ≤ 0) ∨ (1 ≤ a2 ∧ a2 ≤ 1500) ∨ (1501 ≤ a2 ∧ a2 ≤ 9223372036854775807) := by omega
        clear h2
        rcases hc2 with h2 | h2 | h2 | h2
        · exact pTL_any w _ r0.n r0.c (by omega) a1 (by omega) a2 (by omega)
        · exact pA2t_any w r0 k0 (by omega) a1 (by omega) a2 (by omega)
        · exact pA2_any w r0 k0 (by omega) a1 (by omega) a2 (by omega)
        · exact pTH_any w _ r0.n r0.c (by omega) a1 (by omega) a2 (by omega)
      · have hc2 : ((-9223372036854775808) ≤ a2 ∧ a2 ≤ (-1)) ∨ (0 ≤ a2 ∧ a2 ≤ 0) ∨ (1 ≤ a2 ∧ a2 ≤ 1500) ∨ (1501 ≤ a2 ∧ a2 ≤ 9223372036854775807) := by omega
        clear h2
        rcases hc2 with h2 | h2 | h2 | h2
        · exact pTL_any w _ r0.n r0.c (by omega) a1 (by omega) a2 (by omega)
        · exact pB1t_any w r0 k0 (by omega) a1 (by omega) a2 (by omega)
        · exact pB1_any w r0 k0 (by omega) a1 (by omega) a2 (by omega)
        · exact pTH_any w _ r0.n r0.c (by omega) a1 (by omega) a2 (by omega)
      · have hc2 : ((-9223372036854775808) ≤ a2 ∧ a2 ≤ (-1)) ∨ (0 ≤ a2 ∧ a2 ≤ 0) ∨ (1 ≤ a2 ∧ a2 ≤ 1500) ∨ (1501 ≤ a2 ∧ a2 ≤ 9223372036854775807) := by omega
        clear h2
        rcases hc2 with h2 | h2 | h2 | h2
        · exact pTL_any w _ r0.n r0.c (by omega) a1 (by omega) a2 (by omega)
        · exact pD0t_any w r0 k0 (by omega) a1 (by omega) a2 (by omega)
        · exact pD0_any w r0 k0 (by omega) a1 (by omega) a2 (by omega)
        · exact pTH_any w _ r0.n r0.c (by omega) a1 (by omega) a2 (by omega)
      · have hc2 : ((-9223372036854775808) ≤ a2 ∧ a2 ≤ (-1)) ∨ (0 ≤ a2 ∧ a2 ≤ 0) ∨ (1 ≤ a2 ∧ a2 ≤ 1500) ∨ (1501 ≤ a2 ∧ a2 ≤ 9223372036854775807) := by omega
        clear h2
        rcases hc2 with h2 | h2 | h2 | h2
        · exact pTL_any w _ r0.n r0.c (by omega) a1 (by omega) a2 (by omega)
        · exact pE0t_any w r0 k0 (by omega) a1 (by omega) a2 (by omega)
        · exact pE0_any w r0 k0 (by omega) a1 (by omega) a2 (by omega)
        · exact pTH_any w _ r0.n r0.c (by omega) a1 (by omega) a2 (by omega)
      · have hc2 : ((-9223372036854775808) ≤ a2 ∧ a2 ≤ (-1)) ∨ (0 ≤ a2 ∧ a2 ≤ 0) ∨ (1 ≤ a2 ∧ a2 ≤ 1500) ∨ (1501 ≤ a2 ∧ a2 ≤ 9223372036854775807) := by omega
        clear h2
        rcases hc2 with h2 | h2 | h2 | h2
        · exact pTL_any w _ r0.n r0.c (by omega) a1 (by omega) a2 (by omega)
        · exact pF1t_any w r0 k0 (by omega) a1 (by omega) a2 (by omega)
        · exact pF1_any w r0 k0 (by omega) a1 (by omega) a2 (by omega)
        · exact pTH_any w _ r0.n r0.c (by omega) a1 (by omega) a2 (by omega)
      · exact pWH_any w _ r0.n r0.c (by omega) a1 (by omega) a2 (by omega)
    · have hc1 : ((-9223372036854775808) ≤ a1 ∧ a1 ≤ (-1)) ∨ (0 ≤ a1 ∧ a1 ≤ 0) ∨ (1 ≤ a1 ∧ a1 ≤ 535) ∨ (536 ≤ a1 ∧ a1 ≤ 536) ∨ (537 ≤ a1 ∧ a1 ≤ 1071) ∨ (1072 ≤ a1 ∧ a1 ≤ 5000) ∨ (5001 ≤ a1 ∧ a1 ≤ 9223372036854775807) := by omega
      clear h1
      rcases hc1 with h1 | h1 | h1 | h1 | h1 | h1 | h1
      · exact pWL_any w _ r0.n r0.c (by omega) a1 (by omega) a2 (by omega)
      · have hc2 : ((-9223372036854775808) ≤ a2 ∧ a2 ≤ (-1)) ∨ (0 ≤ a2 ∧ a2 ≤ 0) ∨ (1 ≤ a2 ∧ a2 ≤ 1500) ∨ (1501 ≤ a2 ∧ a2 ≤ 9223372036854775807) := by omega
        clear h2
        rcases hc2 with h2 | h2 | h2 | h2
        · exact pTL_any w _ r0.n r0.c (by omega) a1 (by omega) a2 (by omega)
        · exact pA2t_any w r0 k0 (by omega) a1 (by omega) a2 (by omega)
        · exact pA2_any w r0 k0 (by omega) a1 (by omega) a2 (by omega)
        · exact pTH_any w _ r0.n r0.c (by omega) a1 (by omega) a2 (by omega)
      · have hc2 : ((-9223372036854775808) ≤ a2 ∧ a2 ≤ (-1)) ∨ (0 ≤ a2 ∧ a2 ≤ 0) ∨ (1 ≤ a2 ∧ a2 ≤ 1500) ∨ (1501 ≤ a2 ∧ a2 ≤ 9223372036854775807) := by omega
        clear h2
        rcases hc2 with h2 | h2 | h2 | h2
        · exact pTL_any w _ r0.n r0.c (by omega) a1 (by omega) a2 (by omega)
        · exact pB1t_any w r0 k0 (by omega) a1 (by omega) a2 (by omega)
        · exact pB1_any w r0 k0 (by omega) a1 (by omega) a2 (by omega)
        · exact pTH_any w _ r0.n r0.c (by omega) a1 (by omega) a2 (by omega)
      · have hc2 : ((-9223372036854775808) ≤ a2 ∧ a2 ≤ (-1)) ∨ (0 ≤ a2 ∧ a2 ≤ 0) ∨ (1 ≤ a2 ∧ a2 ≤ 1500) ∨ (1501 ≤ a2 ∧ a2 ≤ 9223372036854775807) := by omega
        clear h2
        rcases hc2 with h2 | h2 | h2 | h2
        · exact pTL_any w _ r0.n r0.c (by omega) a1 (by omega) a2 (by omega)
        · exact pD1t_any w r0 k0 (by omega) a1 (by omega) a2 (by omega)
        · exact pD1_any w r0 k0 (by omega) a1 (by omega) a2 (by omega)
        · exact pTH_any w _ r0.n r0.c (by omega) a1 (by omega) a2 (by omega)
      · have hc2 : ((-9223372036854775808) ≤ a2 ∧ a2 ≤ (-1)) ∨ (0 ≤ a2 ∧ a2 ≤ 0) ∨ (1 ≤ a2 ∧ a2 ≤ 1500) ∨ (1501 ≤ a2 ∧ a2 ≤ 9223372036854775807) := by omega
        clear h2
        rcases hc2 with h2 | h2 | h2 | h2
        · exact pTL_any w _ r0.n r0.c (by omega) a1 (by omega) a2 (by omega)
        · exact pE1t_any w r0 k0 (by omega) a1 (by omega) a2 (by omega)
        · exact pE1_any w r0 k0 (by omega) a1 (by omega) a2 (by omega)
        · exact pTH_any w _ r0.n r0.c (by omega) a1 (by omega) a2 (by omega)
      · have hc2 : ((-9223372036854775808) ≤ a2 ∧ a2 ≤ (-1)) ∨ (0 ≤ a2 ∧ a2 ≤ 0) ∨ (1 ≤ a2 ∧ a2 ≤ 1500) ∨ (1501 ≤ a2 ∧ a2 ≤ 9223372036854775807) := by omega
        clear h2
        rcases hc2 with h2 | h2 | h2 | h2
        · exact pTL_any w _ r0.n r0.c (by omega) a1 (by omega) a2 (by omega)
        · exact pF2t_any w r0 k0 (by omega) a1 (by omega) a2 (by omega)
        · exact pF2_any w r0 k0 (by omega) a1 (by omega) a2 (by omega)
        · exact pTH_any w _ r0.n r0.c (by omega) a1 (by omega) a2 (by omega)
      · exact pWH_any w _ r0.n r0.c (by omega) a1 (by omega) a2 (by omega)
    · have hc1 : ((-9223372036854775808) ≤ a1 ∧ a1 ≤ (-1)) ∨ (0 ≤ a1 ∧ a1 ≤ 0) ∨ (1 ≤ a1 ∧ a1 ≤ 535) ∨ (536 ≤ a1 ∧ a1 ≤ 536) ∨ (537 ≤ a1 ∧ a1 ≤ 1071) ∨ (1072 ≤ a1 ∧ a1 ≤ 5000) ∨ (5001 ≤ a1 ∧ a1 ≤ 9223372036854775807) := by omega
      clear h1
      rcases hc1 with h1 | h1 | h1 | h1 | h1 | h1 | h1
      · exact pWL_any w _ r0.n r0.c (by omega) a1 (by omega) a2 (by omega)
      · have hc2 : ((-9223372036854775808) ≤ a2 ∧ a2 ≤ (-1)) ∨ (0 ≤ a2 ∧ a2 ≤ 0) ∨ (1 ≤ a2 ∧ a2 ≤ 1500) ∨ (1501 ≤ a2 ∧ a2 ≤ 9223372036854775807) := by omega
        clear h2
        rcases hc2 with h2 | h2 | h2 | h2
        · exact pTL_any w _ r0.n r0.c (by omega) a1 (by omega) a2 (by omega)
        · exact pA2t_any w r0 k0 (by omega) a1 (by omega) a2 (by omega)
        · exact pA2_any w r0 k0 (by omega) a1 (by omega) a2 (by omega)
        · exact pTH_any w _ r0.n r0.c (by omega) a1 (by omega) a2 (by omega)
      · have hc2 : ((-9223372036854775808) ≤ a2 ∧ a2 ≤ (-1)) ∨ (0 ≤ a2 ∧ a2 ≤ 0) ∨ (1 ≤ a2 ∧ a2 ≤ 1500) ∨ (1501 ≤ a2 ∧ a2 ≤ 9223372036854775807) := by omega
        clear h2
        rcases hc2 with h2 | h2 | h2 | h2
        · exact pTL_any w _ r0.n r0.c (by omega) a1 (by omega) a2 (by omega)
        · exact pB1t_any w r0 k0 (by omega) a1 (by omega) a2 (by omega)
        · exact pB1_any w r0 k0 (by omega) a1 (by omega) a2 (by omega)
        · exact pTH_any w _ r0.n r0.c (by omega) a1 (by omega) a2 (by omega)
      · have hc2 : ((-9223372036854775808) ≤ a2 ∧ a2 ≤ (-1)) ∨ (0 ≤ a2 ∧ a2 ≤ 0) ∨ (1 ≤ a2 ∧ a2 ≤ 1500) ∨ (1501 ≤ a2 ∧ a2 ≤ 9223372036854775807) := by omega
        clear h2
        rcases hc2 with h2 | h2 | h2 | h2
        · exact pTL_any w _ r0.n r0.c (by omega) a1 (by omega) a2 (by omega)
        · exact pD2t_any w r0 k0 (by omega) a1 (by omega) a2 (by omega)
        · exact pD2_any w r0 k0 (by omega) a1 (by omega) a2 (by omega)
        · exact pTH_any w _ r0.n r0.c (by omega) a1 (by omega) a2 (by omega)
      · have hc2 : ((-9223372036854775808) ≤ a2 ∧ a2 ≤ (-1)) ∨ (0 ≤ a2 ∧ a2 ≤ 0) ∨ (1 ≤ a2 ∧ a2 ≤ 1500) ∨ (1501 ≤ a2 ∧ a2 ≤ 9223372036854775807) := by omega
        clear h2
        rcases hc2 with h2 | h2 | h2 | h2
        · exact pTL_any w _ r0.n r0.c (by omega) a1 (by omega) a2 (by omega)
        · exact pE2t_any w r0 k0 (by omega) a1 (by omega) a2 (by omega)
        · exact pE2_any w r0 k0 (by omega) a1 (by omega) a2 (by omega)
        · exact pTH_any w _ r0.n r0.c (by omega) a1 (by omega) a2 (by omega)
      · have hc2 : ((-9223372036854775808) ≤ a2 ∧ a2 ≤ (-1)) ∨ (0 ≤ a2 ∧ a2 ≤ 0) ∨ (1 ≤ a2 ∧ a2 ≤ 1500) ∨ (1501 ≤ a2 ∧ a2 ≤ 9223372036854775807) := by omega
        clear h2
        rcases hc2 with h2 | h2 | h2 | h2
        · exact pTL_any w _ r0.n r0.c (by omega) a1 (by omega) a2 (by omega)
        · exact pF3t_any w r0 k0 (by omega) a1 (by omega) a2 (by omega)
        · exact pF3_any w r0 k0 (by omega) a1 (by omega) a2 (by omega)
        · exact pTH_any w _ r0.n r0.c (by omega) a1 (by omega) a2 (by omega)
      · exact pWH_any w _ r0.n r0.c (by omega) a1 (by omega) a2 (by omega)
    · have hc1 : ((-9223372036854775808) ≤ a1 ∧ a1 ≤ (-1)) ∨ (0 ≤ a1 ∧ a1 ≤ 0) ∨ (1 ≤ a1 ∧ a1 ≤ 535) ∨ (536 ≤ a1 ∧ a1 ≤ 536) ∨ (537 ≤ a1 ∧ a1 ≤ 1071) ∨ (1072 ≤ a1 ∧ a1 ≤ 1072) ∨ (1073 ≤ a1 ∧ a1 ≤ 5000) ∨ (5001 ≤ a1 ∧ a1 ≤ 9223372036854775807) := by omega
      clear h1
      rcases hc1 with h1 | h1 | h1 | h1 | h1 | h1 | h1 | h1
      · exact pWL_any w _ r0.n r0.c (by omega) a1 (by omega) a2 (by omega)
      · have hc2 : ((-9223372036854775808) ≤ a2 ∧ a2 ≤ (-1)) ∨ (0 ≤ a2 ∧ a2 ≤ 0) ∨ (1 ≤ a2 ∧ a2 ≤ 1500) ∨ (1501 ≤ a2 ∧ a2 ≤ 9223372036854775807) := by omega
        clear h2
        rcases hc2 with h2 | h2 | h2 | h2
        · exact pTL_any w _ r0.n r0.c (by omega) a1 (by omega) a2 (by omega)
        · exact pA2t_any w r0 k0 (by omega) a1 (by omega) a2 (by omega)
        · exact pA2_any w r0 k0 (by omega) a1 (by omega) a2 (by omega)
        · exact pTH_any w _ r0.n r0.c (by omega) a1 (by omega) a2 (by omega)
      · have hc2 : ((-9223372036854775808) ≤ a2 ∧ a2 ≤ (-1)) ∨ (0 ≤ a2 ∧ a2 ≤ 0) ∨ (1 ≤ a2 ∧ a2 ≤ 1500) ∨ (1501 ≤ a2 ∧ a2 ≤ 9223372036854775807) := by omega
        clear h2
        rcases hc2 with h2 | h2 | h2 | h2
        · exact pTL_any w _ r0.n r0.c (by omega) a1 (by omega) a2 (by omega)
        · exact pB1t_any w r0 k0 (by omega) a1 (by omega) a2 (by omega)
        · exact pB1_any w r0 k0 (by omega) a1 (by omega) a2 (by omega)
        · exact pTH_any w _ r0.n r0.c (by omega) a1 (by omega) a2 (by omega)
      · have hc2 : ((-9223372036854775808) ≤ a2 ∧ a2 ≤ (-1)) ∨ (0 ≤ a2 ∧ a2 ≤ 0) ∨ (1 ≤ a2 ∧ a2 ≤ 1500) ∨ (1501 ≤ a2 ∧ a2 ≤ 9223372036854775807) := by omega
        clear h2
        rcases hc2 with h2 | h2 | h2 | h2
        · exact pTL_any w _ r0.n r0.c (by omega) a1 (by omega) a2 (by omega)
        · exact pD2t_any w r0 k0 (by omega) a1 (by omega) a2 (by omega)
        · exact pD2_any w r0 k0 (by omega) a1 (by omega) a2 (by omega)
        · exact pTH_any w _ r0.n r0.c (by omega) a1 (by omega) a2 (by omega)
      · have hc2 : ((-9223372036854775808) ≤ a2 ∧ a2 ≤ (-1)) ∨ (0 ≤ a2 ∧ a2 ≤ 0) ∨ (1 ≤ a2 ∧ a2 ≤ 1500) ∨ (1501 ≤ a2 ∧ a2 ≤ 9223372036854775807) := by omega
        clear h2
        rcases hc2 with h2 | h2 | h2 | h2
        · exact pTL_any w _ r0.n r0.c (by omega) a1 (by omega) a2 (by omega)
        · exact pE2t_any w r0 k0 (by omega) a1 (by omega) a2 (by omega)
        · exact pE2_any w r0 k0 (by omega) a1 (by omega) a2 (by omega)
        · exact pTH_any w _ r0.n r0.c (by omega) a1 (by omega) a2 (by omega)
      · have hc2 : ((-9223372036854775808) ≤ a2 ∧ a2 ≤ (-1)) ∨ (0 ≤ a2 ∧ a2 ≤ 0) ∨ (1 ≤ a2 ∧ a2 ≤ 1500) ∨ (1501 ≤ a2 ∧ a2 ≤ 9223372036854775807) := by omega
        clear h2
        rcases hc2 with h2 | h2 | h2 | h2
        · exact pTL_any w _ r0.n r0.c (by omega) a1 (by omega) a2 (by omega)
        · exact pG0t_any w r0 k0 (by omega) a1 (by omega) a2 (by omega)
        · exact pG0_any w r0 k0 (by omega) a1 (by omega) a2 (by omega)
        · exact pTH_any w _ r0.n r0.c (by omega) a1 (by omega) a2 (by omega)
      · have hc2 : ((-9223372036854775808) ≤ a2 ∧ a2 ≤ (-1)) ∨ (0 ≤ a2 ∧ a2 ≤ 0) ∨ (1 ≤ a2 ∧ a2 ≤ 1500) ∨ (1501 ≤ a2 ∧ a2 ≤ 9223372036854775807) := by omega
        clear h2
        rcases hc2 with h2 | h2 | h2 | h2
        · exact pTL_any w _ r0.n r0.c (by omega) a1 (by omega) a2 (by omega)
        · exact pH0t_any w r0 k0 (by omega) a1 (by omega) a2 (by omega)
        · exact pH0_any w r0 k0 (by omega) a1 (by omega) a2 (by omega)
        · exact pTH_any w _ r0.n r0.c (by omega) a1 (by omega) a2 (by omega)
      · exact pWH_any w _ r0.n r0.c (by omega) a1 (by omega) a2 (by omega)
    · have hc1 : ((-9223372036854775808) ≤ a1 ∧ a1 ≤ (-1)) ∨ (0 ≤ a1 ∧ a1 ≤ 0) ∨ (1 ≤ a1 ∧ a1 ≤ 535) ∨ (536 ≤ a1 ∧ a1 ≤ 536) ∨ (537 ≤ a1 ∧ a1 ≤ 1071) ∨ (1072 ≤ a1 ∧ a1 ≤ 1072) ∨ (1073 ≤ a1 ∧ a1 ≤ 5000) ∨ (5001 ≤ a1 ∧ a1 ≤ 9223372036854775807) := by omega
      clear h1
      rcases hc1 with h1 | h1 | h1 | h1 | h1 | h1 | h1 | h1
      · exact pWL_any w _ r0.n r0.c (by omega) a1 (by omega) a2 (by omega)
      · have hc2 : ((-9223372036854775808) ≤ a2 ∧ a2 ≤ (-1)) ∨ (0 ≤ a2 ∧ a2 ≤ 0) ∨ (1 ≤ a2 ∧ a2 ≤ 1500) ∨ (1501 ≤ a2 ∧ a2 ≤ 9223372036854775807) := by omega
        clear h2
        rcases hc2 with h2 | h2 | h2 | h2
        · exact pTL_any w _ r0.n r0.c (by omega) a1 (by omega) a2 (by omega)
        · exact pA2t_any w r0 k0 (by omega) a1 (by omega) a2 (by omega)
        · exact pA2_any w r0 k0 (by omega) a1 (by omega) a2 (by omega)
        · exact pTH_any w _ r0.n r0.c (by omega) a1 (by omega) a2 (by omega)
      · have hc2 : ((-9223372036854775808) ≤ a2 ∧ a2 ≤ (-1)) ∨ (0 ≤ a2 ∧ a2 ≤ 0) ∨ (1 ≤ a2 ∧ a2 ≤ 1500) ∨ (1501 ≤ a2 ∧ a2 ≤ 9223372036854775807) := by omega
        clear h2
        rcases hc2 with h2 | h2 | h2 | h2
        · exact pTL_any w _ r0.n r0.c (by omega) a1 (by omega) a2 (by omega)
        · exact pB1t_any w r0 k0 (by omega) a1 (by omega) a2 (by omega)
        · exact pB1_any w r0 k0 (by omega) a1 (by omega) a2 (by omega)
        · exact pTH_any w _ r0.n r0.c (by omega) a1 (by omega) a2 (by omega)
      · have hc2 : ((-9223372036854775808) ≤ a2 ∧ a2 ≤ (-1)) ∨ (0 ≤ a2 ∧ a2 ≤ 0) ∨ (1 ≤ a2 ∧ a2 ≤ 1500) ∨ (1501 ≤ a2 ∧ a2 ≤ 9223372036854775807) := by omega
        clear h2
        rcases hc2 with h2 | h2 | h2 | h2
        · exact pTL_any w _ r0.n r0.c (by omega) a1 (by omega) a2 (by omega)
        · exact pD2t_any w r0 k0 (by omega) a1 (by omega) a2 (by omega)
        · exact pD2_any w r0 k0 (by omega) a1 (by omega) a2 (by omega)
        · exact pTH_any w _ r0.n r0.c (by omega) a1 (by omega) a2 (by omega)
      · have hc2 : ((-9223372036854775808) ≤ a2 ∧ a2 ≤ (-1)) ∨ (0 ≤ a2 ∧ a2 ≤ 0) ∨ (1 ≤ a2 ∧ a2 ≤ 1500) ∨ (1501 ≤ a2 ∧ a2 ≤ 9223372036854775807) := by omega
        clear h2
        rcases hc2 with h2 | h2 | h2 | h2
        · exact pTL_any w _ r0.n r0.c (by omega) a1 (by omega) a2 (by omega)
        · exact pE2t_any w r0 k0 (by omega) a1 (by omega) a2 (by omega)
        · exact pE2_any w r0 k0 (by omega) a1 (by omega) a2 (by omega)
        · exact pTH_any w _ r0.n r0.c (by omega) a1 (by omega) a2 (by omega)
      · have hc2 : ((-9223372036854775808) ≤ a2 ∧ a2 ≤ (-1)) ∨ (0 ≤ a2 ∧ a2 ≤ 0) ∨ (1 ≤ a2 ∧ a2 ≤ 1500) ∨ (1501 ≤ a2 ∧ a2 ≤ 9223372036854775807) := by omega
        clear h2
        rcases hc2 with h2 | h2 | h2 | h2
        · exact pTL_any w _ r0.n r0.c (by omega) a1 (by omega) a2 (by omega)
        · exact pG1t_any w r0 k0 (by omega) a1 (by omega) a2 (by omega)
        · exact pG1_any w r0 k0 (by omega) a1 (by omega) a2 (by omega)
        · exact pTH_any w _ r0.n r0.c (by omega) a1 (by omega) a2 (by omega)
      · have hc2 : ((-9223372036854775808) ≤ a2 ∧ a2 ≤ (-1)) ∨ (0 ≤ a2 ∧ a2 ≤ 0) ∨ (1 ≤ a2 ∧ a2 ≤ 1500) ∨ (1501 ≤ a2 ∧ a2 ≤ 9223372036854775807) := by omega
        clear h2
        rcases hc2 with h2 | h2 | h2 | h2
        · exact pTL_any w _ r0.n r0.c (by omega) a1 (by omega) a2 (by omega)
        · exact pH1t_any w r0 k0 (by omega) a1 (by omega) a2 (by omega)
        · exact pH1_any w r0 k0 (by omega) a1 (by omega) a2 (by omega)
        · exact pTH_any w _ r0.n r0.c (by omega) a1 (by omega) a2 (by omega)
      · exact pWH_any w _ r0.n r0.c (by omega) a1 (by omega) a2 (by omega)
    · exact pL_any w _ r0.n r0.c (by omega) a1 (by omega) a2 (by omega)

set_option maxRecDepth 100000 in
theorem lifted (os : Os) (started : os.Started) (H : Type) (enc : TypeId × Value → H) :
    ReturnsInHanded {} Try.checked os 3 .any (Rows.connWindowSpec.pre6 enc Try.prog Try.f3 Rows.connWindowRow.domain false) (Rows.connWindowSpec.post enc Try.prog Try.f3 false true false false) := by
  refine returnsInHanded_of_change (C := Try.checked) own started (by kernel_rfl) Try.func3
    (ChangeSpec.witness6 (enc := enc) (C := Try.checked) false ⟨#[], #[.slice none 0 0, .int .i64 0, .int .i64 0], []⟩ 8 (by kernel_rfl) (by kernel_rfl) (by kernel_rfl) (by kernel_rfl)) ?_
  intro W base args ds gs before hval0 hW hcnd _
  have hval : ∀ (j : Nat) t v, Try.f3.params[j]? = some t → args[j]? = some v → Value.okWide Try.prog W .any base t v := hval0
  have hW' := hW
  obtain ⟨p, q, hA0, hV, rfl, hfz, hnd⟩ := hW
  have hA : DataW.TrodAll enc Try.prog W 0 (fun _ => true) true Try.f3.params.toList args.toList ds p := hA0
  rw [Try.params3] at hA hval
  obtain ⟨v0, vs0, d0, ds0, p_0, q0, hargs, rfl, rfl, k0, r0⟩ := trodAll_cons hA
  obtain ⟨v1, vs1, d1, ds1, p_1, q1, rfl, rfl, rfl, k1, r1⟩ := trodAll_cons r0
  obtain ⟨v2, vs2, d2, ds2, p_2, q2, rfl, rfl, rfl, k2, r2⟩ := trodAll_cons r1
  obtain ⟨rfl, rfl, rfl⟩ := trodAll_nil r2
  obtain rfl : args = #[v0, v1, v2] := by cases args; simp_all
  obtain ⟨rfl, rfl⟩ := trodVars_none hV
  have lt0 : ∀ x ∈ p_0, x.block < W.heap.size := by obtain ⟨m, hm⟩ := k0; exact DataW.trod_lt m _ _ _ hm
  have lt1 : ∀ x ∈ p_1, x.block < W.heap.size := by obtain ⟨m, hm⟩ := k1; exact DataW.trod_lt m _ _ _ hm
  have lt2 : ∀ x ∈ p_2, x.block < W.heap.size := by obtain ⟨m, hm⟩ := k2; exact DataW.trod_lt m _ _ _ hm
  obtain ⟨a1, rfl, hh1⟩ := open_int (hval 1 3 v1 rfl rfl)
  obtain ⟨a2, rfl, hh2⟩ := open_int (hval 2 3 v2 rfl rfl)
  have hrow0 : RowIn W v0 := by
    obtain ⟨fuel, hf⟩ := k0
    obtain ⟨a0, len0, cap0, rfl⟩ := okWide_slice Try.underlying22 (hval 0 22 v0 rfl rfl)
    exact open_row Try.underlying22 Try.underlying5 (by kernel_rfl) hf
  clear hA0 hval0
  refine (walk W _ hrow0 a1 hh1 a2 hh2).mono fun e W' ⟨he, hg⟩ => ?_
  subst he
  have bel := hg.below0
  exact ⟨_, rfl, _, _, _, [], _, [], hW', trodAll_mk1 (shut_bool Try.underlying4 _), (trodAll_cons_mk (Below.trod laid_out (by kernel_rfl) (of_decide_eq_true (by kernel_rfl)) k0 bel lt0) (trodAll_cons_mk (Below.trod laid_out (by kernel_rfl) (of_decide_eq_true (by kernel_rfl)) k1 bel lt1) (trodAll_cons_mk (Below.trod laid_out (by kernel_rfl) (of_decide_eq_true (by kernel_rfl)) k2 bel lt2) trodAll_mk0))), rfl, bel.frame _, fun h => by cases h⟩

theorem over : Rows.connWindowRow.holds Try.pinned (OpenSpec.ofChange Rows.connWindowSpec) :=
  OpenClaim.holds_of_wide 3 Try.f3 rfl rfl rfl rfl rfl rfl rfl ⟨rfl, rfl, rfl, rfl, rfl⟩ rfl rfl rfl rfl rfl j_func Try.func3 joined
    (of_decide_eq_true (by kernel_rfl)) (by unfold Func.isWrapper; first | (rw [if_pos (by decide +kernel)]; kernel_rfl) | (rw [if_neg (by decide +kernel)]; exact ⟨rfl, rfl⟩))
    (fun os started H enc _ => lifted os started H enc)

theorem proved : Rows.ConnWindowSaid := over
end Go.Proofs.Ytjblchdoalipeaa.connWindow

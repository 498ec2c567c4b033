/-
  A Stack begins just where chapter 19 takes its host (wharflaw20.SockBegins). No condition.
-/
import Derived.Test.YtjpjmhcpomkjmaaGreatRows
import Derived.WalkKit
import Derived.ProofKit
import Derived.OpenShut
import Derived.Below
import Derived.Test.YtjpjmhcpomkjmaaGreatPaSockBeginsQ0
import Derived.Test.YtjpjmhcpomkjmaaGreatPaSockBeginsQ1
import Derived.Test.YtjpjmhcpomkjmaaGreatPaSockBeginsQ2
import Derived.Test.YtjpjmhcpomkjmaaGreatPaSockBeginsQ3
import Derived.Test.YtjpjmhcpomkjmaaGreatPaSockBeginsQ4
import Derived.Test.YtjpjmhcpomkjmaaGreatPaSockBeginsQ5
import Derived.Test.YtjpjmhcpomkjmaaGreatPaSockBeginsQ6
import Derived.Test.YtjpjmhcpomkjmaaGreatPaSockBeginsQ7
import Derived.Test.YtjpjmhcpomkjmaaGreatJfSockBegins
namespace Go.Proofs.YtjpjmhcpomkjmaaGreat.sockBegins
open Go.ChangeShapes Go.WideShapes Go.ChangeAt Go.RowKit
open Go
set_option linter.unusedVariables false
set_option linter.unusedSimpArgs false

theorem own : ownKnob Tryz.prog.godebug = none := by kernel_rfl
section
variable {P : Program} {w : World} {r : Reach} {base : Nat} {t : TypeId} {v : Value}
theorem cell_int {k : IntKind} (ht : P.underlying t = some (.int k)) (h : Cell.okWide P w r base t v) : ∃ n, v = .int k n ∧ k.min ≤ n ∧ n ≤ k.max := by
  simp only [Cell.okWide, ht] at h
  cases v <;> simp_all [Cell.ok, IntKind.has]
theorem cell_bool (ht : P.underlying t = some .bool) (h : Cell.okWide P w r base t v) : ∃ b, v = .bool b := by
  simp only [Cell.okWide, ht] at h
  cases v <;> simp_all [Cell.ok]
theorem cell_slice {e : TypeId} (ht : P.underlying t = some (.slice e)) (h : Cell.okWide P w r base t v) : ∃ a n c, v = .slice a n c := by
  simp only [Cell.okWide, ht] at h
  cases v <;> simp_all [Cell.ok]
end
theorem in_i64 {n : Int} (h : IntKind.i64.min ≤ n ∧ n ≤ IntKind.i64.max) : (-9223372036854775808) ≤ n ∧ n ≤ 9223372036854775807 := by
  rw [show IntKind.i64.min = (-9223372036854775808) by decide, show IntKind.i64.max = 9223372036854775807 by decide] at h
  exact h
theorem in_u32 {n : Int} (h : IntKind.u32.min ≤ n ∧ n ≤ IntKind.u32.max) : 0 ≤ n ∧ n ≤ 4294967295 := by
  rw [show IntKind.u32.min = 0 by decide, show IntKind.u32.max = 4294967295 by decide] at h
  exact h
theorem in_u8 {n : Int} (h : IntKind.u8.min ≤ n ∧ n ≤ IntKind.u8.max) : 0 ≤ n ∧ n ≤ 255 := by
  rw [show IntKind.u8.min = 0 by decide, show IntKind.u8.max = 255 by decide] at h
  exact h
theorem cells_api_HostConfig : Tryz.prog.cellTypes Tryz.prog.depth 27 = some [5, 5, 5, 5, 5, 5, 25, 3, 25] := by kernel_rfl
set_option maxRecDepth 100000 in
theorem open_api_HostConfig {W : World} {base : Nat} {v : Value} (h : Value.okWide Tryz.prog W .any base 27 v) : ∃ (a0 : Int) (a1 : Int) (a2 : Int) (a3 : Int) (a4 : Int) (a5 : Int) (a6 : Int) (a7 : Int) (a8 : Int), v = .agg #[.int .u8 a0, .int .u8 a1, .int .u8 a2, .int .u8 a3, .int .u8 a4, .int .u8 a5, .int .u32 a6, .int .i64 a7, .int .u32 a8] ∧ (0 ≤ a0 ∧ a0 ≤ 255) ∧ (0 ≤ a1 ∧ a1 ≤ 255) ∧ (0 ≤ a2 ∧ a2 ≤ 255) ∧ (0 ≤ a3 ∧ a3 ≤ 255) ∧ (0 ≤ a4 ∧ a4 ≤ 255) ∧ (0 ≤ a5 ∧ a5 ≤ 255) ∧ (0 ≤ a6 ∧ a6 ≤ 4294967295) ∧ ((-9223372036854775808) ≤ a7 ∧ a7 ≤ 9223372036854775807) ∧ (0 ≤ a8 ∧ a8 ≤ 4294967295) := by
  simp only [Value.okWide, Tryz.underlying27] at h
  obtain ⟨cs, rfl, hsz, ts, hts, _, hc⟩ := h
  rw [cells_api_HostConfig] at hts
  cases hts
  have hsz : cs.size = 9 := by rw [hsz]; kernel_rfl
  obtain ⟨l⟩ := cs
  match l, hsz with
  | [x0, x1, x2, x3, x4, x5, x6, x7, x8], _ =>
    have g : ∀ i v u, [x0, x1, x2, x3, x4, x5, x6, x7, x8][i]? = some v → ([5, 5, 5, 5, 5, 5, 25, 3, 25] : List TypeId)[i % 9]? = some u → Cell.okWide Tryz.prog W .any base u v := by
      intro i v u hv hu
      obtain ⟨u', h1, h2⟩ := hc i v (by show ([x0, x1, x2, x3, x4, x5, x6, x7, x8] : List Value).toArray[i]? = some v; rw [List.getElem?_toArray]; exact hv)
      have h1 : ([5, 5, 5, 5, 5, 5, 25, 3, 25] : List TypeId)[i % 9]? = some u' := h1
      rw [hu] at h1
      cases h1
      exact h2
    obtain ⟨a0, rfl, h0⟩ := cell_int Tryz.underlying5 (g 0 x0 5 rfl rfl)
    have h0 := in_u8 h0
    obtain ⟨a1, rfl, h1⟩ := cell_int Tryz.underlying5 (g 1 x1 5 rfl rfl)
    have h1 := in_u8 h1
    obtain ⟨a2, rfl, h2⟩ := cell_int Tryz.underlying5 (g 2 x2 5 rfl rfl)
    have h2 := in_u8 h2
    obtain ⟨a3, rfl, h3⟩ := cell_int Tryz.underlying5 (g 3 x3 5 rfl rfl)
    have h3 := in_u8 h3
    obtain ⟨a4, rfl, h4⟩ := cell_int Tryz.underlying5 (g 4 x4 5 rfl rfl)
    have h4 := in_u8 h4
    obtain ⟨a5, rfl, h5⟩ := cell_int Tryz.underlying5 (g 5 x5 5 rfl rfl)
    have h5 := in_u8 h5
    obtain ⟨a6, rfl, h6⟩ := cell_int Tryz.underlying25 (g 6 x6 25 rfl rfl)
    have h6 := in_u32 h6
    obtain ⟨a7, rfl, h7⟩ := cell_int Tryz.underlying3 (g 7 x7 3 rfl rfl)
    have h7 := in_i64 h7
    obtain ⟨a8, rfl, h8⟩ := cell_int Tryz.underlying25 (g 8 x8 25 rfl rfl)
    have h8 := in_u32 h8
    exact ⟨_, _, _, _, _, _, _, _, _, rfl, h0, h1, h2, h3, h4, h5, h6, h7, h8⟩

theorem walk (w : World) (a0 : Int) (h0 : (0 ≤ a0 ∧ a0 ≤ 255)) (a1 : Int) (h1 : (0 ≤ a1 ∧ a1 ≤ 255)) (a2 : Int) (h2 : (0 ≤ a2 ∧ a2 ≤ 255)) (a3 : Int) (h3 : (0 ≤ a3 ∧ a3 ≤ 255)) (a4 : Int) (h4 : (0 ≤ a4 ∧ a4 ≤ 255)) (a5 : Int) (h5 : (0 ≤ a5 ∧ a5 ≤ 255)) (a6 : Int) (h6 : (0 ≤ a6 ∧ a6 ≤ 4294967295)) (a7 : Int) (h7 : ((-9223372036854775808) ≤ a7 ∧ a7 ≤ 9223372036854775807)) (a8 : Int) (h8 : (0 ≤ a8 ∧ a8 ≤ 4294967295)) : Calls Tryz.prog 3 #[.agg #[.int .u8 a0, .int .u8 a1, .int .u8 a2, .int .u8 a3, .int .u8 a4, .int .u8 a5, .int .u32 a6, .int .i64 a7, .int .u32 a8]] w fun e w' => e = .returned (.bool true) ∧ Kp [] w w' := by
  have hc6 : (0 ≤ a6 ∧ a6 ≤ 0) ∨ (1 ≤ a6 ∧ a6 ≤ 3758096383) ∨ (3758096384 ≤ a6 ∧ a6 ≤ 4294967295) := by omega
  clear h6
  rcases hc6 with h6 | h6 | h6
  · have hc7 : ((-9223372036854775808) ≤ a7 ∧ a7 ≤ (-1)) ∨ (0 ≤ a7 ∧ a7 ≤ 0) ∨ (1 ≤ a7 ∧ a7 ≤ 9223372036854775807) := by omega
    clear h7
    rcases hc7 with h7 | h7 | h7
    · cases hb : par8b a0 with
      | true =>
        exact pZlo_any w a0 h0 a1 h1 a2 h2 a3 h3 a4 h4 a5 h5 a6 (by omega) a7 (by omega) a8 (by omega) hb
      | false =>
        exact pOdd_any w a0 h0 a1 h1 a2 h2 a3 h3 a4 h4 a5 h5 a6 (by omega) a7 (by omega) a8 (by omega) hb
    · have hc8 : (0 ≤ a8 ∧ a8 ≤ 0) ∨ (1 ≤ a8 ∧ a8 ≤ 4294967295) := by omega
      clear h8
      rcases hc8 with h8 | h8
      · cases hb : par8b a0 with
        | true =>
          exact pZz_any w a0 h0 a1 h1 a2 h2 a3 h3 a4 h4 a5 h5 a6 (by omega) a7 (by omega) a8 (by omega) hb
        | false =>
          exact pOdd_any w a0 h0 a1 h1 a2 h2 a3 h3 a4 h4 a5 h5 a6 (by omega) a7 (by omega) a8 (by omega) hb
      · cases hb : par8b a0 with
        | true =>
          exact pZg_any w a0 h0 a1 h1 a2 h2 a3 h3 a4 h4 a5 h5 a6 (by omega) a7 (by omega) a8 (by omega) hb
        | false =>
          exact pOdd_any w a0 h0 a1 h1 a2 h2 a3 h3 a4 h4 a5 h5 a6 (by omega) a7 (by omega) a8 (by omega) hb
    · cases hb : par8b a0 with
      | true =>
        exact pZhi_any w a0 h0 a1 h1 a2 h2 a3 h3 a4 h4 a5 h5 a6 (by omega) a7 (by omega) a8 (by omega) hb
      | false =>
        exact pOdd_any w a0 h0 a1 h1 a2 h2 a3 h3 a4 h4 a5 h5 a6 (by omega) a7 (by omega) a8 (by omega) hb
  · have hc7 : ((-9223372036854775808) ≤ a7 ∧ a7 ≤ 0) ∨ (1 ≤ a7 ∧ a7 ≤ 1) ∨ (2 ≤ a7 ∧ a7 ≤ 2) ∨ (3 ≤ a7 ∧ a7 ≤ 3) ∨ (4 ≤ a7 ∧ a7 ≤ 4) ∨ (5 ≤ a7 ∧ a7 ≤ 5) ∨ (6 ≤ a7 ∧ a7 ≤ 6) ∨ (7 ≤ a7 ∧ a7 ≤ 7) ∨ (8 ≤ a7 ∧ a7 ≤ 8) ∨ (9 ≤ a7 ∧ a7 ≤ 9) ∨ (10 ≤ a7 ∧ a7 ≤ 10) ∨ (11 ≤ a7 ∧ a7 ≤ 11) ∨ (12 ≤ a7 ∧ a7 ≤ 12) ∨ (13 ≤ a7 ∧ a7 ≤ 13) ∨ (14 ≤ a7 ∧ a7 ≤ 14) ∨ (15 ≤ a7 ∧ a7 ≤ 15) ∨ (16 ≤ a7 ∧ a7 ≤ 16) ∨ (17 ≤ a7 ∧ a7 ≤ 17) ∨ (18 ≤ a7 ∧ a7 ≤ 18) ∨ (19 ≤ a7 ∧ a7 ≤ 19) ∨ (20 ≤ a7 ∧ a7 ≤ 20) ∨ (21 ≤ a7 ∧ a7 ≤ 21) ∨ (22 ≤ a7 ∧ a7 ≤ 22) ∨ (23 ≤ a7 ∧ a7 ≤ 23) ∨ (24 ≤ a7 ∧ a7 ≤ 24) ∨ (25 ≤ a7 ∧ a7 ≤ 25) ∨ (26 ≤ a7 ∧ a7 ≤ 26) ∨ (27 ≤ a7 ∧ a7 ≤ 27) ∨ (28 ≤ a7 ∧ a7 ≤ 28) ∨ (29 ≤ a7 ∧ a7 ≤ 29) ∨ (30 ≤ a7 ∧ a7 ≤ 30) ∨ (31 ≤ a7 ∧ a7 ≤ 31) ∨ (32 ≤ a7 ∧ a7 ≤ 32) ∨ (33 ≤ a7 ∧ a7 ≤ 9223372036854775807) := by omega
    clear h7
    rcases hc7 with h7 | h7 | h7 | h7 | h7 | h7 | h7 | h7 | h7 | h7 | h7 | h7 | h7 | h7 | h7 | h7 | h7 | h7 | h7 | h7 | h7 | h7 | h7 | h7 | h7 | h7 | h7 | h7 | h7 | h7 | h7 | h7 | h7 | h7
    · cases hb : par8b a0 with
      | true =>
        exact pAlo_any w a0 h0 a1 h1 a2 h2 a3 h3 a4 h4 a5 h5 a6 (by omega) a7 (by omega) a8 (by omega) hb
      | false =>
        exact pOdd_any w a0 h0 a1 h1 a2 h2 a3 h3 a4 h4 a5 h5 a6 (by omega) a7 (by omega) a8 (by omega) hb
    · have hc8 : (0 ≤ a8 ∧ a8 ≤ 0) ∨ (1 ≤ a8 ∧ a8 ≤ 3758096383) ∨ (3758096384 ≤ a8 ∧ a8 ≤ 4294967295) := by omega
      clear h8
      rcases hc8 with h8 | h8 | h8
      · cases hb : par8b a0 with
        | true =>
          exact pN1_any w a0 h0 a1 h1 a2 h2 a3 h3 a4 h4 a5 h5 a6 (by omega) a7 (by omega) a8 (by omega) hb
        | false =>
          exact pOdd_any w a0 h0 a1 h1 a2 h2 a3 h3 a4 h4 a5 h5 a6 (by omega) a7 (by omega) a8 (by omega) hb
      · cases hb : par8b a0 with
        | true =>
          exact pW1_any w a0 h0 a1 h1 a2 h2 a3 h3 a4 h4 a5 h5 a6 (by omega) a7 (by omega) a8 (by omega) hb
        | false =>
          exact pOdd_any w a0 h0 a1 h1 a2 h2 a3 h3 a4 h4 a5 h5 a6 (by omega) a7 (by omega) a8 (by omega) hb
      · cases hb : par8b a0 with
        | true =>
          exact pAg_any w a0 h0 a1 h1 a2 h2 a3 h3 a4 h4 a5 h5 a6 (by omega) a7 (by omega) a8 (by omega) hb
        | false =>
          exact pOdd_any w a0 h0 a1 h1 a2 h2 a3 h3 a4 h4 a5 h5 a6 (by omega) a7 (by omega) a8 (by omega) hb
    · have hc8 : (0 ≤ a8 ∧ a8 ≤ 0) ∨ (1 ≤ a8 ∧ a8 ≤ 3758096383) ∨ (3758096384 ≤ a8 ∧ a8 ≤ 4294967295) := by omega
      clear h8
      rcases hc8 with h8 | h8 | h8
      · cases hb : par8b a0 with
        | true =>
          exact pN2_any w a0 h0 a1 h1 a2 h2 a3 h3 a4 h4 a5 h5 a6 (by omega) a7 (by omega) a8 (by omega) hb
        | false =>
          exact pOdd_any w a0 h0 a1 h1 a2 h2 a3 h3 a4 h4 a5 h5 a6 (by omega) a7 (by omega) a8 (by omega) hb
      · cases hb : par8b a0 with
        | true =>
          exact pW2_any w a0 h0 a1 h1 a2 h2 a3 h3 a4 h4 a5 h5 a6 (by omega) a7 (by omega) a8 (by omega) hb
        | false =>
          exact pOdd_any w a0 h0 a1 h1 a2 h2 a3 h3 a4 h4 a5 h5 a6 (by omega) a7 (by omega) a8 (by omega) hb
      · cases hb : par8b a0 with
        | true =>
          exact pAg_any w a0 h0 a1 h1 a2 h2 a3 h3 a4 h4 a5 h5 a6 (by omega) a7 (by omega) a8 (by omega) hb
        | false =>
          exact pOdd_any w a0 h0 a1 h1 a2 h2 a3 h3 a4 h4 a5 h5 a6 (by omega) a7 (by omega) a8 (by omega) hb
    · have hc8 : (0 ≤ a8 ∧ a8 ≤ 0) ∨ (1 ≤ a8 ∧ a8 ≤ 3758096383) ∨ (3758096384 ≤ a8 ∧ a8 ≤ 4294967295) := by omega
      clear h8
      rcases hc8 with h8 | h8 | h8
      · cases hb : par8b a0 with
        | true =>
          exact pN3_any w a0 h0 a1 h1 a2 h2 a3 h3 a4 h4 a5 h5 a6 (by omega) a7 (by omega) a8 (by omega) hb
        | false =>
          exact pOdd_any w a0 h0 a1 h1 a2 h2 a3 h3 a4 h4 a5 h5 a6 (by omega) a7 (by omega) a8 (by omega) hb
      · cases hb : par8b a0 with
        | true =>
          exact pW3_any w a0 h0 a1 h1 a2 h2 a3 h3 a4 h4 a5 h5 a6 (by omega) a7 (by omega) a8 (by omega) hb
        | false =>
          exact pOdd_any w a0 h0 a1 h1 a2 h2 a3 h3 a4 h4 a5 h5 a6 (by omega) a7 (by omega) a8 (by omega) hb
      · cases hb : par8b a0 with
        | true =>
          exact pAg_any w a0 h0 a1 h1 a2 h2 a3 h3 a4 h4 a5 h5 a6 (by omega) a7 (by omega) a8 (by omega) hb
        | false =>
          exact pOdd_any w a0 h0 a1 h1 a2 h2 a3 h3 a4 h4 a5 h5 a6 (by omega) a7 (by omega) a8 (by omega) hb
    · have hc8 : (0 ≤ a8 ∧ a8 ≤ 0) ∨ (1 ≤ a8 ∧ a8 ≤ 3758096383) ∨ (3758096384 ≤ a8 ∧ a8 ≤ 4294967295) := by omega
      clear h8
      rcases hc8 with h8 | h8 | h8
      · cases hb : par8b a0 with
        | true =>
          exact pN4_any w a0 h0 a1 h1 a2 h2 a3 h3 a4 h4 a5 h5 a6 (by omega) a7 (by omega) a8 (by omega) hb
        | false =>
          exact pOdd_any w a0 h0 a1 h1 a2 h2 a3 h3 a4 h4 a5 h5 a6 (by omega) a7 (by omega) a8 (by omega) hb
      · cases hb : par8b a0 with
        | true =>
          exact pW4_any w a0 h0 a1 h1 a2 h2 a3 h3 a4 h4 a5 h5 a6 (by omega) a7 (by omega) a8 (by omega) hb
        | false =>
          exact pOdd_any w a0 h0 a1 h1 a2 h2 a3 h3 a4 h4 a5 h5 a6 (by omega) a7 (by omega) a8 (by omega) hb
      · cases hb : par8b a0 with
        | true =>
          exact pAg_any w a0 h0 a1 h1 a2 h2 a3 h3 a4 h4 a5 h5 a6 (by omega) a7 (by omega) a8 (by omega) hb
        | false =>
          exact pOdd_any w a0 h0 a1 h1 a2 h2 a3 h3 a4 h4 a5 h5 a6 (by omega) a7 (by omega) a8 (by omega) hb
    · have hc8 : (0 ≤ a8 ∧ a8 ≤ 0) ∨ (1 ≤ a8 ∧ a8 ≤ 3758096383) ∨ (3758096384 ≤ a8 ∧ a8 ≤ 4294967295) := by omega
      clear h8
      rcases hc8 with h8 | h8 | h8
      · cases hb : par8b a0 with
        | true =>
          exact pN5_any w a0 h0 a1 h1 a2 h2 a3 h3 a4 h4 a5 h5 a6 (by omega) a7 (by omega) a8 (by omega) hb
        | false =>
          exact pOdd_any w a0 h0 a1 h1 a2 h2 a3 h3 a4 h4 a5 h5 a6 (by omega) a7 (by omega) a8 (by omega) hb
      · cases hb : par8b a0 with
        | true =>
          exact pW5_any w a0 h0 a1 h1 a2 h2 a3 h3 a4 h4 a5 h5 a6 (by omega) a7 (by omega) a8 (by omega) hb
        | false =>
          exact pOdd_any w a0 h0 a1 h1 a2 h2 a3 h3 a4 h4 a5 h5 a6 (by omega) a7 (by omega) a8 (by omega) hb
      · cases hb : par8b a0 with
        | true =>
          exact pAg_any w a0 h0 a1 h1 a2 h2 a3 h3 a4 h4 a5 h5 a6 (by omega) a7 (by omega) a8 (by omega) hb
        | false =>
          exact pOdd_any w a0 h0 a1 h1 a2 h2 a3 h3 a4 h4 a5 h5 a6 (by omega) a7 (by omega) a8 (by omega) hb
    · have hc8 : (0 ≤ a8 ∧ a8 ≤ 0) ∨ (1 ≤ a8 ∧ a8 ≤ 3758096383) ∨ (3758096384 ≤ a8 ∧ a8 ≤ 4294967295) := by omega
      clear h8
      rcases hc8 with h8 | h8 | h8
      · cases hb : par8b a0 with
        | true =>
          exact pN6_any w a0 h0 a1 h1 a2 h2 a3 h3 a4 h4 a5 h5 a6 (by omega) a7 (by omega) a8 (by omega) hb
        | false =>
          exact pOdd_any w a0 h0 a1 h1 a2 h2 a3 h3 a4 h4 a5 h5 a6 (by omega) a7 (by omega) a8 (by omega) hb
      · cases hb : par8b a0 with
        | true =>
          exact pW6_any w a0 h0 a1 h1 a2 h2 a3 h3 a4 h4 a5 h5 a6 (by omega) a7 (by omega) a8 (by omega) hb
        | false =>
          exact pOdd_any w a0 h0 a1 h1 a2 h2 a3 h3 a4 h4 a5 h5 a6 (by omega) a7 (by omega) a8 (by omega) hb
      · cases hb : par8b a0 with
        | true =>
          exact pAg_any w a0 h0 a1 h1 a2 h2 a3 h3 a4 h4 a5 h5 a6 (by omega) a7 (by omega) a8 (by omega) hb
        | false =>
          exact pOdd_any w a0 h0 a1 h1 a2 h2 a3 h3 a4 h4 a5 h5 a6 (by omega) a7 (by omega) a8 (by omega) hb
    · have hc8 : (0 ≤ a8 ∧ a8 ≤ 0) ∨ (1 ≤ a8 ∧ a8 ≤ 3758096383) ∨ (3758096384 ≤ a8 ∧ a8 ≤ 4294967295) := by omega
      clear h8
      rcases hc8 with h8 | h8 | h8
      · cases hb : par8b a0 with
        | true =>
          exact pN7_any w a0 h0 a1 h1 a2 h2 a3 h3 a4 h4 a5 h5 a6 (by omega) a7 (by omega) a8 (by omega) hb
        | false =>
          exact pOdd_any w a0 h0 a1 h1 a2 h2 a3 h3 a4 h4 a5 h5 a6 (by omega) a7 (by omega) a8 (by omega) hb
      · cases hb : par8b a0 with
        | true =>
          exact pW7_any w a0 h0 a1 h1 a2 h2 a3 h3 a4 h4 a5 h5 a6 (by omega) a7 (by omega) a8 (by omega) hb
        | false =>
          exact pOdd_any w a0 h0 a1 h1 a2 h2 a3 h3 a4 h4 a5 h5 a6 (by omega) a7 (by omega) a8 (by omega) hb
      · cases hb : par8b a0 with
        | true =>
          exact pAg_any w a0 h0 a1 h1 a2 h2 a3 h3 a4 h4 a5 h5 a6 (by omega) a7 (by omega) a8 (by omega) hb
        | false =>
          exact pOdd_any w a0 h0 a1 h1 a2 h2 a3 h3 a4 h4 a5 h5 a6 (by omega) a7 (by omega) a8 (by omega) hb
    · have hc8 : (0 ≤ a8 ∧ a8 ≤ 0) ∨ (1 ≤ a8 ∧ a8 ≤ 3758096383) ∨ (3758096384 ≤ a8 ∧ a8 ≤ 4294967295) := by omega
      clear h8
      rcases hc8 with h8 | h8 | h8
      · cases hb : par8b a0 with
        | true =>
          exact pN8_any w a0 h0 a1 h1 a2 h2 a3 h3 a4 h4 a5 h5 a6 (by omega) a7 (by omega) a8 (by omega) hb
        | false =>
          exact pOdd_any w a0 h0 a1 h1 a2 h2 a3 h3 a4 h4 a5 h5 a6 (by omega) a7 (by omega) a8 (by omega) hb
      · cases hb : par8b a0 with
        | true =>
          exact pW8_any w a0 h0 a1 h1 a2 h2 a3 h3 a4 h4 a5 h5 a6 (by omega) a7 (by omega) a8 (by omega) hb
        | false =>
          exact pOdd_any w a0 h0 a1 h1 a2 h2 a3 h3 a4 h4 a5 h5 a6 (by omega) a7 (by omega) a8 (by omega) hb
      · cases hb : par8b a0 with
        | true =>
          exact pAg_any w a0 h0 a1 h1 a2 h2 a3 h3 a4 h4 a5 h5 a6 (by omega) a7 (by omega) a8 (by omega) hb
        | false =>
          exact pOdd_any w a0 h0 a1 h1 a2 h2 a3 h3 a4 h4 a5 h5 a6 (by omega) a7 (by omega) a8 (by omega) hb
    · have hc8 : (0 ≤ a8 ∧ a8 ≤ 0) ∨ (1 ≤ a8 ∧ a8 ≤ 3758096383) ∨ (3758096384 ≤ a8 ∧ a8 ≤ 4294967295) := by omega
      clear h8
      rcases hc8 with h8 | h8 | h8
      · cases hb : par8b a0 with
        | true =>
          exact pN9_any w a0 h0 a1 h1 a2 h2 a3 h3 a4 h4 a5 h5 a6 (by omega) a7 (by omega) a8 (by omega) hb
        | false =>
          exact pOdd_any w a0 h0 a1 h1 a2 h2 a3 h3 a4 h4 a5 h5 a6 (by omega) a7 (by omega) a8 (by omega) hb
      · cases hb : par8b a0 with
        | true =>
          exact pW9_any w a0 h0 a1 h1 a2 h2 a3 h3 a4 h4 a5 h5 a6 (by omega) a7 (by omega) a8 (by omega) hb
        | false =>
          exact pOdd_any w a0 h0 a1 h1 a2 h2 a3 h3 a4 h4 a5 h5 a6 (by omega) a7 (by omega) a8 (by omega) hb
      · cases hb : par8b a0 with
        | true =>
          exact pAg_any w a0 h0 a1 h1 a2 h2 a3 h3 a4 h4 a5 h5 a6 (by omega) a7 (by omega) a8 (by omega) hb
        | false =>
          exact pOdd_any w a0 h0 a1 h1 a2 h2 a3 h3 a4 h4 a5 h5 a6 (by omega) a7 (by omega) a8 (by omega) hb
    · have hc8 : (0 ≤ a8 ∧ a8 ≤ 0) ∨ (1 ≤ a8 ∧ a8 ≤ 3758096383) ∨ (3758096384 ≤ a8 ∧ a8 ≤ 4294967295) := by omega
      clear h8
      rcases hc8 with h8 | h8 | h8
      · cases hb : par8b a0 with
        | true =>
          exact pN10_any w a0 h0 a1 h1 a2 h2 a3 h3 a4 h4 a5 h5 a6 (by omega) a7 (by omega) a8 (by omega) hb
        | false =>
          exact pOdd_any w a0 h0 a1 h1 a2 h2 a3 h3 a4 h4 a5 h5 a6 (by omega) a7 (by omega) a8 (by omega) hb
      · cases hb : par8b a0 with
        | true =>
          exact pW10_any w a0 h0 a1 h1 a2 h2 a3 h3 a4 h4 a5 h5 a6 (by omega) a7 (by omega) a8 (by omega) hb
        | false =>
          exact pOdd_any w a0 h0 a1 h1 a2 h2 a3 h3 a4 h4 a5 h5 a6 (by omega) a7 (by omega) a8 (by omega) hb
      · cases hb : par8b a0 with
        | true =>
          exact pAg_any w a0 h0 a1 h1 a2 h2 a3 h3 a4 h4 a5 h5 a6 (by omega) a7 (by omega) a8 (by omega) hb
        | false =>
          exact pOdd_any w a0 h0 a1 h1 a2 h2 a3 h3 a4 h4 a5 h5 a6 (by omega) a7 (by omega) a8 (by omega) hb
    · have hc8 : (0 ≤ a8 ∧ a8 ≤ 0) ∨ (1 ≤ a8 ∧ a8 ≤ 3758096383) ∨ (3758096384 ≤ a8 ∧ a8 ≤ 4294967295) := by omega
      clear h8
      rcases hc8 with h8 | h8 | h8
      · cases hb : par8b a0 with
        | true =>
          exact pN11_any w a0 h0 a1 h1 a2 h2 a3 h3 a4 h4 a5 h5 a6 (by omega) a7 (by omega) a8 (by omega) hb
        | false =>
          exact pOdd_any w a0 h0 a1 h1 a2 h2 a3 h3 a4 h4 a5 h5 a6 (by omega) a7 (by omega) a8 (by omega) hb
      · cases hb : par8b a0 with
        | true =>
          exact pW11_any w a0 h0 a1 h1 a2 h2 a3 h3 a4 h4 a5 h5 a6 (by omega) a7 (by omega) a8 (by omega) hb
        | false =>
          exact pOdd_any w a0 h0 a1 h1 a2 h2 a3 h3 a4 h4 a5 h5 a6 (by omega) a7 (by omega) a8 (by omega) hb
      · cases hb : par8b a0 with
        | true =>
          exact pAg_any w a0 h0 a1 h1 a2 h2 a3 h3 a4 h4 a5 h5 a6 (by omega) a7 (by omega) a8 (by omega) hb
        | false =>
          exact pOdd_any w a0 h0 a1 h1 a2 h2 a3 h3 a4 h4 a5 h5 a6 (by omega) a7 (by omega) a8 (by omega) hb
    · have hc8 : (0 ≤ a8 ∧ a8 ≤ 0) ∨ (1 ≤ a8 ∧ a8 ≤ 3758096383) ∨ (3758096384 ≤ a8 ∧ a8 ≤ 4294967295) := by omega
      clear h8
      rcases hc8 with h8 | h8 | h8
      · cases hb : par8b a0 with
        | true =>
          exact pN12_any w a0 h0 a1 h1 a2 h2 a3 h3 a4 h4 a5 h5 a6 (by omega) a7 (by omega) a8 (by omega) hb
        | false =>
          exact pOdd_any w a0 h0 a1 h1 a2 h2 a3 h3 a4 h4 a5 h5 a6 (by omega) a7 (by omega) a8 (by omega) hb
      · cases hb : par8b a0 with
        | true =>
          exact pW12_any w a0 h0 a1 h1 a2 h2 a3 h3 a4 h4 a5 h5 a6 (by omega) a7 (by omega) a8 (by omega) hb
        | false =>
          exact pOdd_any w a0 h0 a1 h1 a2 h2 a3 h3 a4 h4 a5 h5 a6 (by omega) a7 (by omega) a8 (by omega) hb
      · cases hb : par8b a0 with
        | true =>
          exact pAg_any w a0 h0 a1 h1 a2 h2 a3 h3 a4 h4 a5 h5 a6 (by omega) a7 (by omega) a8 (by omega) hb
        | false =>
          exact pOdd_any w a0 h0 a1 h1 a2 h2 a3 h3 a4 h4 a5 h5 a6 (by omega) a7 (by omega) a8 (by omega) hb
    · have hc8 : (0 ≤ a8 ∧ a8 ≤ 0) ∨ (1 ≤ a8 ∧ a8 ≤ 3758096383) ∨ (3758096384 ≤ a8 ∧ a8 ≤ 4294967295) := by omega
      clear h8
      rcases hc8 with h8 | h8 | h8
      · cases hb : par8b a0 with
        | true =>
          exact pN13_any w a0 h0 a1 h1 a2 h2 a3 h3 a4 h4 a5 h5 a6 (by omega) a7 (by omega) a8 (by omega) hb
        | false =>
          exact pOdd_any w a0 h0 a1 h1 a2 h2 a3 h3 a4 h4 a5 h5 a6 (by omega) a7 (by omega) a8 (by omega) hb
      · cases hb : par8b a0 with
        | true =>
          exact pW13_any w a0 h0 a1 h1 a2 h2 a3 h3 a4 h4 a5 h5 a6 (by omega) a7 (by omega) a8 (by omega) hb
        | false =>
          exact pOdd_any w a0 h0 a1 h1 a2 h2 a3 h3 a4 h4 a5 h5 a6 (by omega) a7 (by omega) a8 (by omega) hb
      · cases hb : par8b a0 with
        | true =>
          exact pAg_any w a0 h0 a1 h1 a2 h2 a3 h3 a4 h4 a5 h5 a6 (by omega) a7 (by omega) a8 (by omega) hb
        | false =>
          exact pOdd_any w a0 h0 a1 h1 a2 h2 a3 h3 a4 h4 a5 h5 a6 (by omega) a7 (by omega) a8 (by omega) hb
    · have hc8 : (0 ≤ a8 ∧ a8 ≤ 0) ∨ (1 ≤ a8 ∧ a8 ≤ 3758096383) ∨ (3758096384 ≤ a8 ∧ a8 ≤ 4294967295) := by omega
      clear h8
      rcases hc8 with h8 | h8 | h8
      · cases hb : par8b a0 with
        | true =>
          exact pN14_any w a0 h0 a1 h1 a2 h2 a3 h3 a4 h4 a5 h5 a6 (by omega) a7 (by omega) a8 (by omega) hb
        | false =>
          exact pOdd_any w a0 h0 a1 h1 a2 h2 a3 h3 a4 h4 a5 h5 a6 (by omega) a7 (by omega) a8 (by omega) hb
      · cases hb : par8b a0 with
        | true =>
          exact pW14_any w a0 h0 a1 h1 a2 h2 a3 h3 a4 h4 a5 h5 a6 (by omega) a7 (by omega) a8 (by omega) hb
        | false =>
          exact pOdd_any w a0 h0 a1 h1 a2 h2 a3 h3 a4 h4 a5 h5 a6 (by omega) a7 (by omega) a8 (by omega) hb
      · cases hb : par8b a0 with
        | true =>
          exact pAg_any w a0 h0 a1 h1 a2 h2 a3 h3 a4 h4 a5 h5 a6 (by omega) a7 (by omega) a8 (by omega) hb
        | false =>
          exact pOdd_any w a0 h0 a1 h1 a2 h2 a3 h3 a4 h4 a5 h5 a6 (by omega) a7 (by omega) a8 (by omega) hb
    · have hc8 : (0 ≤ a8 ∧ a8 ≤ 0) ∨ (1 ≤ a8 ∧ a8 ≤ 3758096383) ∨ (3758096384 ≤ a8 ∧ a8 ≤ 4294967295) := by omega
      clear h8
      rcases hc8 with h8 | h8 | h8
      · cases hb : par8b a0 with
        | true =>
          exact pN15_any w a0 h0 a1 h1 a2 h2 a3 h3 a4 h4 a5 h5 a6 (by omega) a7 (by omega) a8 (by omega) hb
        | false =>
          exact pOdd_any w a0 h0 a1 h1 a2 h2 a3 h3 a4 h4 a5 h5 a6 (by omega) a7 (by omega) a8 (by omega) hb
      · cases hb : par8b a0 with
        | true =>
          exact pW15_any w a0 h0 a1 h1 a2 h2 a3 h3 a4 h4 a5 h5 a6 (by omega) a7 (by omega) a8 (by omega) hb
        | false =>
          exact pOdd_any w a0 h0 a1 h1 a2 h2 a3 h3 a4 h4 a5 h5 a6 (by omega) a7 (by omega) a8 (by omega) hb
      · cases hb : par8b a0 with
        | true =>
          exact pAg_any w a0 h0 a1 h1 a2 h2 a3 h3 a4 h4 a5 h5 a6 (by omega) a7 (by omega) a8 (by omega) hb
        | false =>
          exact pOdd_any w a0 h0 a1 h1 a2 h2 a3 h3 a4 h4 a5 h5 a6 (by omega) a7 (by omega) a8 (by omega) hb
    · have hc8 : (0 ≤ a8 ∧ a8 ≤ 0) ∨ (1 ≤ a8 ∧ a8 ≤ 3758096383) ∨ (3758096384 ≤ a8 ∧ a8 ≤ 4294967295) := by omega
      clear h8
      rcases hc8 with h8 | h8 | h8
      · cases hb : par8b a0 with
        | true =>
          exact pN16_any w a0 h0 a1 h1 a2 h2 a3 h3 a4 h4 a5 h5 a6 (by omega) a7 (by omega) a8 (by omega) hb
        | false =>
          exact pOdd_any w a0 h0 a1 h1 a2 h2 a3 h3 a4 h4 a5 h5 a6 (by omega) a7 (by omega) a8 (by omega) hb
      · cases hb : par8b a0 with
        | true =>
          exact pW16_any w a0 h0 a1 h1 a2 h2 a3 h3 a4 h4 a5 h5 a6 (by omega) a7 (by omega) a8 (by omega) hb
        | false =>
          exact pOdd_any w a0 h0 a1 h1 a2 h2 a3 h3 a4 h4 a5 h5 a6 (by omega) a7 (by omega) a8 (by omega) hb
      · cases hb : par8b a0 with
        | true =>
          exact pAg_any w a0 h0 a1 h1 a2 h2 a3 h3 a4 h4 a5 h5 a6 (by omega) a7 (by omega) a8 (by omega) hb
        | false =>
          exact pOdd_any w a0 h0 a1 h1 a2 h2 a3 h3 a4 h4 a5 h5 a6 (by omega) a7 (by omega) a8 (by omega) hb
    · have hc8 : (0 ≤ a8 ∧ a8 ≤ 0) ∨ (1 ≤ a8 ∧ a8 ≤ 3758096383) ∨ (3758096384 ≤ a8 ∧ a8 ≤ 4294967295) := by omega
      clear h8
      rcases hc8 with h8 | h8 | h8
      · cases hb : par8b a0 with
        | true =>
          exact pN17_any w a0 h0 a1 h1 a2 h2 a3 h3 a4 h4 a5 h5 a6 (by omega) a7 (by omega) a8 (by omega) hb
        | false =>
          exact pOdd_any w a0 h0 a1 h1 a2 h2 a3 h3 a4 h4 a5 h5 a6 (by omega) a7 (by omega) a8 (by omega) hb
      · cases hb : par8b a0 with
        | true =>
          exact pW17_any w a0 h0 a1 h1 a2 h2 a3 h3 a4 h4 a5 h5 a6 (by omega) a7 (by omega) a8 (by omega) hb
        | false =>
          exact pOdd_any w a0 h0 a1 h1 a2 h2 a3 h3 a4 h4 a5 h5 a6 (by omega) a7 (by omega) a8 (by omega) hb
      · cases hb : par8b a0 with
        | true =>
          exact pAg_any w a0 h0 a1 h1 a2 h2 a3 h3 a4 h4 a5 h5 a6 (by omega) a7 (by omega) a8 (by omega) hb
        | false =>
          exact pOdd_any w a0 h0 a1 h1 a2 h2 a3 h3 a4 h4 a5 h5 a6 (by omega) a7 (by omega) a8 (by omega) hb
    · have hc8 : (0 ≤ a8 ∧ a8 ≤ 0) ∨ (1 ≤ a8 ∧ a8 ≤ 3758096383) ∨ (3758096384 ≤ a8 ∧ a8 ≤ 4294967295) := by omega
      clear h8
      rcases hc8 with h8 | h8 | h8
      · cases hb : par8b a0 with
        | true =>
          exact pN18_any w a0 h0 a1 h1 a2 h2 a3 h3 a4 h4 a5 h5 a6 (by omega) a7 (by omega) a8 (by omega) hb
        | false =>
          exact pOdd_any w a0 h0 a1 h1 a2 h2 a3 h3 a4 h4 a5 h5 a6 (by omega) a7 (by omega) a8 (by omega) hb
      · cases hb : par8b a0 with
        | true =>
          exact pW18_any w a0 h0 a1 h1 a2 h2 a3 h3 a4 h4 a5 h5 a6 (by omega) a7 (by omega) a8 (by omega) hb
        | false =>
          exact pOdd_any w a0 h0 a1 h1 a2 h2 a3 h3 a4 h4 a5 h5 a6 (by omega) a7 (by omega) a8 (by omega) hb
      · cases hb : par8b a0 with
        | true =>
          exact pAg_any w a0 h0 a1 h1 a2 h2 a3 h3 a4 h4 a5 h5 a6 (by omega) a7 (by omega) a8 (by omega) hb
        | false =>
          exact pOdd_any w a0 h0 a1 h1 a2 h2 a3 h3 a4 h4 a5 h5 a6 (by omega) a7 (by omega) a8 (by omega) hb
    · have hc8 : (0 ≤ a8 ∧ a8 ≤ 0) ∨ (1 ≤ a8 ∧ a8 ≤ 3758096383) ∨ (3758096384 ≤ a8 ∧ a8 ≤ 4294967295) := by omega
      clear h8
      rcases hc8 with h8 | h8 | h8
      · cases hb : par8b a0 with
        | true =>
          exact pN19_any w a0 h0 a1 h1 a2 h2 a3 h3 a4 h4 a5 h5 a6 (by omega) a7 (by omega) a8 (by omega) hb
        | false =>
          exact pOdd_any w a0 h0 a1 h1 a2 h2 a3 h3 a4 h4 a5 h5 a6 (by omega) a7 (by omega) a8 (by omega) hb
      · cases hb : par8b a0 with
        | true =>
          exact pW19_any w a0 h0 a1 h1 a2 h2 a3 h3 a4 h4 a5 h5 a6 (by omega) a7 (by omega) a8 (by omega) hb
        | false =>
          exact pOdd_any w a0 h0 a1 h1 a2 h2 a3 h3 a4 h4 a5 h5 a6 (by omega) a7 (by omega) a8 (by omega) hb
      · cases hb : par8b a0 with
        | true =>
          exact pAg_any w a0 h0 a1 h1 a2 h2 a3 h3 a4 h4 a5 h5 a6 (by omega) a7 (by omega) a8 (by omega) hb
        | false =>
          exact pOdd_any w a0 h0 a1 h1 a2 h2 a3 h3 a4 h4 a5 h5 a6 (by omega) a7 (by omega) a8 (by omega) hb
    · have hc8 : (0 ≤ a8 ∧ a8 ≤ 0) ∨ (1 ≤ a8 ∧ a8 ≤ 3758096383) ∨ (3758096384 ≤ a8 ∧ a8 ≤ 4294967295) := by omega
      clear h8
      rcases hc8 with h8 | h8 | h8
      · cases hb : par8b a0 with
        | true =>
          exact pN20_any w a0 h0 a1 h1 a2 h2 a3 h3 a4 h4 a5 h5 a6 (by omega) a7 (by omega) a8 (by omega) hb
        | false =>
          exact pOdd_any w a0 h0 a1 h1 a2 h2 a3 h3 a4 h4 a5 h5 a6 (by omega) a7 (by omega) a8 (by omega) hb
      · cases hb : par8b a0 with
        | true =>
          exact pW20_any w a0 h0 a1 h1 a2 h2 a3 h3 a4 h4 a5 h5 a6 (by omega) a7 (by omega) a8 (by omega) hb
        | false =>
          exact pOdd_any w a0 h0 a1 h1 a2 h2 a3 h3 a4 h4 a5 h5 a6 (by omega) a7 (by omega) a8 (by omega) hb
      · cases hb : par8b a0 with
        | true =>
          exact pAg_any w a0 h0 a1 h1 a2 h2 a3 h3 a4 h4 a5 h5 a6 (by omega) a7 (by omega) a8 (by omega) hb
        | false =>
          exact pOdd_any w a0 h0 a1 h1 a2 h2 a3 h3 a4 h4 a5 h5 a6 (by omega) a7 (by omega) a8 (by omega) hb
    · have hc8 : (0 ≤ a8 ∧ a8 ≤ 0) ∨ (1 ≤ a8 ∧ a8 ≤ 3758096383) ∨ (3758096384 ≤ a8 ∧ a8 ≤ 4294967295) := by omega
      clear h8
      rcases hc8 with h8 | h8 | h8
      · cases hb : par8b a0 with
        | true =>
          exact pN21_any w a0 h0 a1 h1 a2 h2 a3 h3 a4 h4 a5 h5 a6 (by omega) a7 (by omega) a8 (by omega) hb
        | false =>
          exact pOdd_any w a0 h0 a1 h1 a2 h2 a3 h3 a4 h4 a5 h5 a6 (by omega) a7 (by omega) a8 (by omega) hb
      · cases hb : par8b a0 with
        | true =>
          exact pW21_any w a0 h0 a1 h1 a2 h2 a3 h3 a4 h4 a5 h5 a6 (by omega) a7 (by omega) a8 (by omega) hb
        | false =>
          exact pOdd_any w a0 h0 a1 h1 a2 h2 a3 h3 a4 h4 a5 h5 a6 (by omega) a7 (by omega) a8 (by omega) hb
      · cases hb : par8b a0 with
        | true =>
          exact pAg_any w a0 h0 a1 h1 a2 h2 a3 h3 a4 h4 a5 h5 a6 (by omega) a7 (by omega) a8 (by omega) hb
        | false =>
          exact pOdd_any w a0 h0 a1 h1 a2 h2 a3 h3 a4 h4 a5 h5 a6 (by omega) a7 (by omega) a8 (by omega) hb
    · have hc8 : (0 ≤ a8 ∧ a8 ≤ 0) ∨ (1 ≤ a8 ∧ a8 ≤ 3758096383) ∨ (3758096384 ≤ a8 ∧ a8 ≤ 4294967295) := by omega
      clear h8
      rcases hc8 with h8 | h8 | h8
      · cases hb : par8b a0 with
        | true =>
          exact pN22_any w a0 h0 a1 h1 a2 h2 a3 h3 a4 h4 a5 h5 a6 (by omega) a7 (by omega) a8 (by omega) hb
        | false =>
          exact pOdd_any w a0 h0 a1 h1 a2 h2 a3 h3 a4 h4 a5 h5 a6 (by omega) a7 (by omega) a8 (by omega) hb
      · cases hb : par8b a0 with
        | true =>
          exact pW22_any w a0 h0 a1 h1 a2 h2 a3 h3 a4 h4 a5 h5 a6 (by omega) a7 (by omega) a8 (by omega) hb
        | false =>
          exact pOdd_any w a0 h0 a1 h1 a2 h2 a3 h3 a4 h4 a5 h5 a6 (by omega) a7 (by omega) a8 (by omega) hb
      · cases hb : par8b a0 with
        | true =>
          exact pAg_any w a0 h0 a1 h1 a2 h2 a3 h3 a4 h4 a5 h5 a6 (by omega) a7 (by omega) a8 (by omega) hb
        | false =>
          exact pOdd_any w a0 h0 a1 h1 a2 h2 a3 h3 a4 h4 a5 h5 a6 (by omega) a7 (by omega) a8 (by omega) hb
    · have hc8 : (0 ≤ a8 ∧ a8 ≤ 0) ∨ (1 ≤ a8 ∧ a8 ≤ 3758096383) ∨ (3758096384 ≤ a8 ∧ a8 ≤ 4294967295) := by omega
      clear h8
      rcases hc8 with h8 | h8 | h8
      · cases hb : par8b a0 with
        | true =>
          exact pN23_any w a0 h0 a1 h1 a2 h2 a3 h3 a4 h4 a5 h5 a6 (by omega) a7 (by omega) a8 (by omega) hb
        | false =>
          exact pOdd_any w a0 h0 a1 h1 a2 h2 a3 h3 a4 h4 a5 h5 a6 (by omega) a7 (by omega) a8 (by omega) hb
      · cases hb : par8b a0 with
        | true =>
          exact pW23_any w a0 h0 a1 h1 a2 h2 a3 h3 a4 h4 a5 h5 a6 (by omega) a7 (by omega) a8 (by omega) hb
        | false =>
          exact pOdd_any w a0 h0 a1 h1 a2 h2 a3 h3 a4 h4 a5 h5 a6 (by omega) a7 (by omega) a8 (by omega) hb
      · cases hb : par8b a0 with
        | true =>
          exact pAg_any w a0 h0 a1 h1 a2 h2 a3 h3 a4 h4 a5 h5 a6 (by omega) a7 (by omega) a8 (by omega) hb
        | false =>
          exact pOdd_any w a0 h0 a1 h1 a2 h2 a3 h3 a4 h4 a5 h5 a6 (by omega) a7 (by omega) a8 (by omega) hb
    · have hc8 : (0 ≤ a8 ∧ a8 ≤ 0) ∨ (1 ≤ a8 ∧ a8 ≤ 3758096383) ∨ (3758096384 ≤ a8 ∧ a8 ≤ 4294967295) := by omega
      clear h8
      rcases hc8 with h8 | h8 | h8
      · cases hb : par8b a0 with
        | true =>
          exact pN24_any w a0 h0 a1 h1 a2 h2 a3 h3 a4 h4 a5 h5 a6 (by omega) a7 (by omega) a8 (by omega) hb
        | false =>
          exact pOdd_any w a0 h0 a1 h1 a2 h2 a3 h3 a4 h4 a5 h5 a6 (by omega) a7 (by omega) a8 (by omega) hb
      · cases hb : par8b a0 with
        | true =>
          exact pW24_any w a0 h0 a1 h1 a2 h2 a3 h3 a4 h4 a5 h5 a6 (by omega) a7 (by omega) a8 (by omega) hb
        | false =>
          exact pOdd_any w a0 h0 a1 h1 a2 h2 a3 h3 a4 h4 a5 h5 a6 (by omega) a7 (by omega) a8 (by omega) hb
      · cases hb : par8b a0 with
        | true =>
          exact pAg_any w a0 h0 a1 h1 a2 h2 a3 h3 a4 h4 a5 h5 a6 (by omega) a7 (by omega) a8 (by omega) hb
        | false =>
          exact pOdd_any w a0 h0 a1 h1 a2 h2 a3 h3 a4 h4 a5 h5 a6 (by omega) a7 (by omega) a8 (by omega) hb
    · have hc8 : (0 ≤ a8 ∧ a8 ≤ 0) ∨ (1 ≤ a8 ∧ a8 ≤ 3758096383) ∨ (3758096384 ≤ a8 ∧ a8 ≤ 4294967295) := by omega
      clear h8
      rcases hc8 with h8 | h8 | h8
      · cases hb : par8b a0 with
        | true =>
          exact pN25_any w a0 h0 a1 h1 a2 h2 a3 h3 a4 h4 a5 h5 a6 (by omega) a7 (by omega) a8 (by omega) hb
        | false =>
          exact pOdd_any w a0 h0 a1 h1 a2 h2 a3 h3 a4 h4 a5 h5 a6 (by omega) a7 (by omega) a8 (by omega) hb
      · cases hb : par8b a0 with
        | true =>
          exact pW25_any w a0 h0 a1 h1 a2 h2 a3 h3 a4 h4 a5 h5 a6 (by omega) a7 (by omega) a8 (by omega) hb
        | false =>
          exact pOdd_any w a0 h0 a1 h1 a2 h2 a3 h3 a4 h4 a5 h5 a6 (by omega) a7 (by omega) a8 (by omega) hb
      · cases hb : par8b a0 with
        | true =>
          exact pAg_any w a0 h0 a1 h1 a2 h2 a3 h3 a4 h4 a5 h5 a6 (by omega) a7 (by omega) a8 (by omega) hb
        | false =>
          exact pOdd_any w a0 h0 a1 h1 a2 h2 a3 h3 a4 h4 a5 h5 a6 (by omega) a7 (by omega) a8 (by omega) hb
    · have hc8 : (0 ≤ a8 ∧ a8 ≤ 0) ∨ (1 ≤ a8 ∧ a8 ≤ 3758096383) ∨ (3758096384 ≤ a8 ∧ a8 ≤ 4294967295) := by omega
      clear h8
      rcases hc8 with h8 | h8 | h8
      · cases hb : par8b a0 with
        | true =>
          exact pN26_any w a0 h0 a1 h1 a2 h2 a3 h3 a4 h4 a5 h5 a6 (by omega) a7 (by omega) a8 (by omega) hb
        | false =>
          exact pOdd_any w a0 h0 a1 h1 a2 h2 a3 h3 a4 h4 a5 h5 a6 (by omega) a7 (by omega) a8 (by omega) hb
      · cases hb : par8b a0 with
        | true =>
          exact pW26_any w a0 h0 a1 h1 a2 h2 a3 h3 a4 h4 a5 h5 a6 (by omega) a7 (by omega) a8 (by omega) hb
        | false =>
          exact pOdd_any w a0 h0 a1 h1 a2 h2 a3 h3 a4 h4 a5 h5 a6 (by omega) a7 (by omega) a8 (by omega) hb
      · cases hb : par8b a0 with
        | true =>
          exact pAg_any w a0 h0 a1 h1 a2 h2 a3 h3 a4 h4 a5 h5 a6 (by omega) a7 (by omega) a8 (by omega) hb
        | false =>
          exact pOdd_any w a0 h0 a1 h1 a2 h2 a3 h3 a4 h4 a5 h5 a6 (by omega) a7 (by omega) a8 (by omega) hb
    · have hc8 : (0 ≤ a8 ∧ a8 ≤ 0) ∨ (1 ≤ a8 ∧ a8 ≤ 3758096383) ∨ (3758096384 ≤ a8 ∧ a8 ≤ 4294967295) := by omega
      clear h8
      rcases hc8 with h8 | h8 | h8
      · cases hb : par8b a0 with
        | true =>
          exact pN27_any w a0 h0 a1 h1 a2 h2 a3 h3 a4 h4 a5 h5 a6 (by omega) a7 (by omega) a8 (by omega) hb
        | false =>
          exact pOdd_any w a0 h0 a1 h1 a2 h2 a3 h3 a4 h4 a5 h5 a6 (by omega) a7 (by omega) a8 (by omega) hb
      · cases hb : par8b a0 with
        | true =>
          exact pW27_any w a0 h0 a1 h1 a2 h2 a3 h3 a4 h4 a5 h5 a6 (by omega) a7 (by omega) a8 (by omega) hb
        | false =>
          exact pOdd_any w a0 h0 a1 h1 a2 h2 a3 h3 a4 h4 a5 h5 a6 (by omega) a7 (by omega) a8 (by omega) hb
      · cases hb : par8b a0 with
        | true =>
          exact pAg_any w a0 h0 a1 h1 a2 h2 a3 h3 a4 h4 a5 h5 a6 (by omega) a7 (by omega) a8 (by omega) hb
        | false =>
          exact pOdd_any w a0 h0 a1 h1 a2 h2 a3 h3 a4 h4 a5 h5 a6 (by omega) a7 (by omega) a8 (by omega) hb
    · have hc8 : (0 ≤ a8 ∧ a8 ≤ 0) ∨ (1 ≤ a8 ∧ a8 ≤ 3758096383) ∨ (3758096384 ≤ a8 ∧ a8 ≤ 4294967295) := by omega
      clear h8
      rcases hc8 with h8 | h8 | h8
      · cases hb : par8b a0 with
        | true =>
          exact pN28_any w a0 h0 a1 h1 a2 h2 a3 h3 a4 h4 a5 h5 a6 (by omega) a7 (by omega) a8 (by omega) hb
        | false =>
          exact pOdd_any w a0 h0 a1 h1 a2 h2 a3 h3 a4 h4 a5 h5 a6 (by omega) a7 (by omega) a8 (by omega) hb
      · cases hb : par8b a0 with
        | true =>
          exact pW28_any w a0 h0 a1 h1 a2 h2 a3 h3 a4 h4 a5 h5 a6 (by omega) a7 (by omega) a8 (by omega) hb
        | false =>
          exact pOdd_any w a0 h0 a1 h1 a2 h2 a3 h3 a4 h4 a5 h5 a6 (by omega) a7 (by omega) a8 (by omega) hb
      · cases hb : par8b a0 with
        | true =>
          exact pAg_any w a0 h0 a1 h1 a2 h2 a3 h3 a4 h4 a5 h5 a6 (by omega) a7 (by omega) a8 (by omega) hb
        | false =>
          exact pOdd_any w a0 h0 a1 h1 a2 h2 a3 h3 a4 h4 a5 h5 a6 (by omega) a7 (by omega) a8 (by omega) hb
    · have hc8 : (0 ≤ a8 ∧ a8 ≤ 0) ∨ (1 ≤ a8 ∧ a8 ≤ 3758096383) ∨ (3758096384 ≤ a8 ∧ a8 ≤ 4294967295) := by omega
      clear h8
      rcases hc8 with h8 | h8 | h8
      · cases hb : par8b a0 with
        | true =>
          exact pN29_any w a0 h0 a1 h1 a2 h2 a3 h3 a4 h4 a5 h5 a6 (by omega) a7 (by omega) a8 (by omega) hb
        | false =>
          exact pOdd_any w a0 h0 a1 h1 a2 h2 a3 h3 a4 h4 a5 h5 a6 (by omega) a7 (by omega) a8 (by omega) hb
      · cases hb : par8b a0 with
        | true =>
          exact pW29_any w a0 h0 a1 h1 a2 h2 a3 h3 a4 h4 a5 h5 a6 (by omega) a7 (by omega) a8 (by omega) hb
        | false =>
          exact pOdd_any w a0 h0 a1 h1 a2 h2 a3 h3 a4 h4 a5 h5 a6 (by omega) a7 (by omega) a8 (by omega) hb
      · cases hb : par8b a0 with
        | true =>
          exact pAg_any w a0 h0 a1 h1 a2 h2 a3 h3 a4 h4 a5 h5 a6 (by omega) a7 (by omega) a8 (by omega) hb
        | false =>
          exact pOdd_any w a0 h0 a1 h1 a2 h2 a3 h3 a4 h4 a5 h5 a6 (by omega) a7 (by omega) a8 (by omega) hb
    · have hc8 : (0 ≤ a8 ∧ a8 ≤ 0) ∨ (1 ≤ a8 ∧ a8 ≤ 3758096383) ∨ (3758096384 ≤ a8 ∧ a8 ≤ 4294967295) := by omega
      clear h8
      rcases hc8 with h8 | h8 | h8
      · cases hb : par8b a0 with
        | true =>
          exact pN30_any w a0 h0 a1 h1 a2 h2 a3 h3 a4 h4 a5 h5 a6 (by omega) a7 (by omega) a8 (by omega) hb
        | false =>
          exact pOdd_any w a0 h0 a1 h1 a2 h2 a3 h3 a4 h4 a5 h5 a6 (by omega) a7 (by omega) a8 (by omega) hb
      · cases hb : par8b a0 with
        | true =>
          exact pW30_any w a0 h0 a1 h1 a2 h2 a3 h3 a4 h4 a5 h5 a6 (by omega) a7 (by omega) a8 (by omega) hb
        | false =>
          exact pOdd_any w a0 h0 a1 h1 a2 h2 a3 h3 a4 h4 a5 h5 a6 (by omega) a7 (by omega) a8 (by omega) hb
      · cases hb : par8b a0 with
        | true =>
          exact pAg_any w a0 h0 a1 h1 a2 h2 a3 h3 a4 h4 a5 h5 a6 (by omega) a7 (by omega) a8 (by omega) hb
        | false =>
          exact pOdd_any w a0 h0 a1 h1 a2 h2 a3 h3 a4 h4 a5 h5 a6 (by omega) a7 (by omega) a8 (by omega) hb
    · have hc8 : (0 ≤ a8 ∧ a8 ≤ 0) ∨ (1 ≤ a8 ∧ a8 ≤ 3758096383) ∨ (3758096384 ≤ a8 ∧ a8 ≤ 4294967295) := by omega
      clear h8
      rcases hc8 with h8 | h8 | h8
      · cases hb : par8b a0 with
        | true =>
          exact pN31_any w a0 h0 a1 h1 a2 h2 a3 h3 a4 h4 a5 h5 a6 (by omega) a7 (by omega) a8 (by omega) hb
        | false =>
          exact pOdd_any w a0 h0 a1 h1 a2 h2 a3 h3 a4 h4 a5 h5 a6 (by omega) a7 (by omega) a8 (by omega) hb
      · cases hb : par8b a0 with
        | true =>
          exact pW31_any w a0 h0 a1 h1 a2 h2 a3 h3 a4 h4 a5 h5 a6 (by omega) a7 (by omega) a8 (by omega) hb
        | false =>
          exact pOdd_any w a0 h0 a1 h1 a2 h2 a3 h3 a4 h4 a5 h5 a6 (by omega) a7 (by omega) a8 (by omega) hb
      · cases hb : par8b a0 with
        | true =>
          exact pAg_any w a0 h0 a1 h1 a2 h2 a3 h3 a4 h4 a5 h5 a6 (by omega) a7 (by omega) a8 (by omega) hb
        | false =>
          exact pOdd_any w a0 h0 a1 h1 a2 h2 a3 h3 a4 h4 a5 h5 a6 (by omega) a7 (by omega) a8 (by omega) hb
    · have hc8 : (0 ≤ a8 ∧ a8 ≤ 0) ∨ (1 ≤ a8 ∧ a8 ≤ 3758096383) ∨ (3758096384 ≤ a8 ∧ a8 ≤ 4294967295) := by omega
      clear h8
      rcases hc8 with h8 | h8 | h8
      · cases hb : par8b a0 with
        | true =>
          exact pN32_any w a0 h0 a1 h1 a2 h2 a3 h3 a4 h4 a5 h5 a6 (by omega) a7 (by omega) a8 (by omega) hb
        | false =>
          exact pOdd_any w a0 h0 a1 h1 a2 h2 a3 h3 a4 h4 a5 h5 a6 (by omega) a7 (by omega) a8 (by omega) hb
      · cases hb : par8b a0 with
        | true =>
          exact pW32_any w a0 h0 a1 h1 a2 h2 a3 h3 a4 h4 a5 h5 a6 (by omega) a7 (by omega) a8 (by omega) hb
        | false =>
          exact pOdd_any w a0 h0 a1 h1 a2 h2 a3 h3 a4 h4 a5 h5 a6 (by omega) a7 (by omega) a8 (by omega) hb
      · cases hb : par8b a0 with
        | true =>
          exact pAg_any w a0 h0 a1 h1 a2 h2 a3 h3 a4 h4 a5 h5 a6 (by omega) a7 (by omega) a8 (by omega) hb
        | false =>
          exact pOdd_any w a0 h0 a1 h1 a2 h2 a3 h3 a4 h4 a5 h5 a6 (by omega) a7 (by omega) a8 (by omega) hb
    · cases hb : par8b a0 with
      | true =>
        exact pAhi_any w a0 h0 a1 h1 a2 h2 a3 h3 a4 h4 a5 h5 a6 (by omega) a7 (by omega) a8 (by omega) hb
      | false =>
        exact pOdd_any w a0 h0 a1 h1 a2 h2 a3 h3 a4 h4 a5 h5 a6 (by omega) a7 (by omega) a8 (by omega) hb
  · cases hb : par8b a0 with
    | true =>
      exact pGrp_any w a0 h0 a1 h1 a2 h2 a3 h3 a4 h4 a5 h5 a6 (by omega) a7 (by omega) a8 (by omega) hb
    | false =>
      exact pOdd_any w a0 h0 a1 h1 a2 h2 a3 h3 a4 h4 a5 h5 a6 (by omega) a7 (by omega) a8 (by omega) hb

set_option maxRecDepth 100000 in
theorem lifted (os : Os) (started : os.Started) (H : Type) (enc : TypeId × Value → H) :
    ReturnsInHanded {} Tryz.checked os 3 .any (Rows.sockBeginsSpec.pre6 enc Tryz.prog Tryz.f3 Rows.sockBeginsRow.domain false) (Rows.sockBeginsSpec.post enc Tryz.prog Tryz.f3 false true false false) := by
  refine returnsInHanded_of_change (C := Tryz.checked) own started (by kernel_rfl) Tryz.func3
    (ChangeSpec.witness6 (enc := enc) (C := Tryz.checked) false ⟨#[], #[.agg #[.int .u8 0, .int .u8 0, .int .u8 0, .int .u8 0, .int .u8 0, .int .u8 0, .int .u32 0, .int .i64 0, .int .u32 0]], []⟩ 8 (by kernel_rfl) (by kernel_rfl) (by kernel_rfl) (by kernel_rfl)) ?_
  intro W base args ds gs before hval0 hW hcnd _
  have hval : ∀ (j : Nat) t v, Tryz.f3.params[j]? = some t → args[j]? = some v → Value.okWide Tryz.prog W .any base t v := hval0
  have hW' := hW
  obtain ⟨p, q, hA0, hV, rfl, hfz, hnd⟩ := hW
  have hA : DataW.TrodAll enc Tryz.prog W 0 (fun _ => true) true Tryz.f3.params.toList args.toList ds p := hA0
  rw [Tryz.params3] at hA hval
  obtain ⟨v0, vs0, d0, ds0, p_0, q0, hargs, rfl, rfl, k0, r0⟩ := trodAll_cons hA
  obtain ⟨rfl, rfl, rfl⟩ := trodAll_nil r0
  obtain rfl : args = #[v0] := by cases args; simp_all
  obtain ⟨rfl, rfl⟩ := trodVars_none hV
  have lt0 : ∀ x ∈ p_0, x.block < W.heap.size := by obtain ⟨m, hm⟩ := k0; exact DataW.trod_lt m _ _ _ hm
  obtain ⟨a0, a1, a2, a3, a4, a5, a6, a7, a8, rfl, hh0, hh1, hh2, hh3, hh4, hh5, hh6, hh7, hh8⟩ := open_api_HostConfig (hval 0 27 v0 rfl rfl)

  clear hA0 hval0
  refine (walk W a0 hh0 a1 hh1 a2 hh2 a3 hh3 a4 hh4 a5 hh5 a6 hh6 a7 hh7 a8 hh8).mono fun e W' ⟨he, hg⟩ => ?_
  subst he
  have bel := hg.below0
  exact ⟨_, rfl, _, _, _, [], _, [], hW', trodAll_mk1 (shut_bool Tryz.underlying4 _), (trodAll_cons_mk (Below.trod laid_out (by kernel_rfl) (of_decide_eq_true (by kernel_rfl)) k0 bel lt0) trodAll_mk0), rfl, bel.frame _, fun h => by cases h⟩

theorem over : Rows.sockBeginsRow.holds Tryz.pinned (OpenSpec.ofChange Rows.sockBeginsSpec) :=
  OpenClaim.holds_of_wide 3 Tryz.f3 rfl rfl rfl rfl rfl rfl rfl ⟨rfl, rfl, rfl, rfl, rfl⟩ rfl rfl rfl rfl rfl j_func Tryz.func3 joined
    (of_decide_eq_true (by kernel_rfl)) (by unfold Func.isWrapper; first | (rw [if_pos (by decide +kernel)]; kernel_rfl) | (rw [if_neg (by decide +kernel)]; exact ⟨rfl, rfl⟩))
    (fun os started H enc _ => lifted os started H enc)

theorem proved : Rows.SockBeginsSaid := over
end Go.Proofs.YtjpjmhcpomkjmaaGreat.sockBegins

/-
  A segment that is nobody's is answered with Rst, a Rst never, and nothing is kept of either (wharflaw18.HubStrays). No condition.
-/
import Derived.Test.YtlmpmmcefdhgmaaGreatRows
import Derived.WalkKit
import Derived.ProofKit
import Derived.OpenShut
import Derived.Below
import Derived.Test.YtlmpmmcefdhgmaaGreatPaHubStraysQ0
import Derived.Test.YtlmpmmcefdhgmaaGreatPaHubStraysQ1
import Derived.Test.YtlmpmmcefdhgmaaGreatPaHubStraysQ2
import Derived.Test.YtlmpmmcefdhgmaaGreatPaHubStraysQ3
import Derived.Test.YtlmpmmcefdhgmaaGreatJfHubStrays
namespace Go.Proofs.YtlmpmmcefdhgmaaGreat.hubStrays
open Go.ChangeShapes Go.WideShapes Go.ChangeAt Go.RowKit
open Go
set_option linter.unusedVariables false
set_option linter.unusedSimpArgs false

theorem own : ownKnob Tryz.prog.godebug = none := by kernel_rfl
section
variable {P : Program} {w : World} {r : Reach} {base : Nat} {t : TypeId} {v : Value}
theorem cell_int {k : IntKind} (ht : P.underlying t = some (.int k)) (h : Cell.okWide P w r base t v) : ∃ n, v = .int k n ∧ k.min ≤ n ∧ n ≤ k.max := by
  simp only [Cell.okWide, ht] at h
  cases v <;> simp_all [Cell.ok, IntKind.has]
theorem cell_bool (ht : P.underlying t = some .bool) (h : Cell.okWide P w r base t v) : ∃ b, v = .bool b := by
  simp only [Cell.okWide, ht] at h
  cases v <;> simp_all [Cell.ok]
theorem cell_slice {e : TypeId} (ht : P.underlying t = some (.slice e)) (h : Cell.okWide P w r base t v) : ∃ a n c, v = .slice a n c := by
  simp only [Cell.okWide, ht] at h
  cases v <;> simp_all [Cell.ok]
end
theorem in_i64 {n : Int} (h : IntKind.i64.min ≤ n ∧ n ≤ IntKind.i64.max) : (-9223372036854775808) ≤ n ∧ n ≤ 9223372036854775807 := by
  rw [show IntKind.i64.min = (-9223372036854775808) by decide, show IntKind.i64.max = 9223372036854775807 by decide] at h
  exact h
theorem in_u32 {n : Int} (h : IntKind.u32.min ≤ n ∧ n ≤ IntKind.u32.max) : 0 ≤ n ∧ n ≤ 4294967295 := by
  rw [show IntKind.u32.min = 0 by decide, show IntKind.u32.max = 4294967295 by decide] at h
  exact h
theorem cells_api_Segment : Tryz.prog.cellTypes Tryz.prog.depth 38 = some [33, 3, 33, 3, 32, 32, 3, 3, 3, 3, 36] := by kernel_rfl
set_option maxRecDepth 100000 in
theorem open_api_Segment {W : World} {base : Nat} {v : Value} (h : Value.okWide Tryz.prog W .any base 38 v) : ∃ (a0 : Int) (a1 : Int) (a2 : Int) (a3 : Int) (a4 : Int) (a5 : Int) (a6 : Int) (a7 : Int) (a8 : Int) (a9 : Int) (p10 : Option Addr) (n10 c10 : Nat), v = .agg #[.int .u32 a0, .int .i64 a1, .int .u32 a2, .int .i64 a3, .int .u32 a4, .int .u32 a5, .int .i64 a6, .int .i64 a7, .int .i64 a8, .int .i64 a9, .slice p10 n10 c10] ∧ (0 ≤ a0 ∧ a0 ≤ 4294967295) ∧ ((-9223372036854775808) ≤ a1 ∧ a1 ≤ 9223372036854775807) ∧ (0 ≤ a2 ∧ a2 ≤ 4294967295) ∧ ((-9223372036854775808) ≤ a3 ∧ a3 ≤ 9223372036854775807) ∧ (0 ≤ a4 ∧ a4 ≤ 4294967295) ∧ (0 ≤ a5 ∧ a5 ≤ 4294967295) ∧ ((-9223372036854775808) ≤ a6 ∧ a6 ≤ 9223372036854775807) ∧ ((-9223372036854775808) ≤ a7 ∧ a7 ≤ 9223372036854775807) ∧ ((-9223372036854775808) ≤ a8 ∧ a8 ≤ 9223372036854775807) ∧ ((-9223372036854775808) ≤ a9 ∧ a9 ≤ 9223372036854775807) := by
  simp only [Value.okWide, Tryz.underlying38] at h
  obtain ⟨cs, rfl, hsz, ts, hts, _, hc⟩ := h
  rw [cells_api_Segment] at hts
  cases hts
  have hsz : cs.size = 11 := by rw [hsz]; kernel_rfl
  obtain ⟨l⟩ := cs
  match l, hsz with
  | [x0, x1, x2, x3, x4, x5, x6, x7, x8, x9, x10], _ =>
    have g : ∀ i v u, [x0, x1, x2, x3, x4, x5, x6, x7, x8, x9, x10][i]? = some v → ([33, 3, 33, 3, 32, 32, 3, 3, 3, 3, 36] : List TypeId)[i % 11]? = some u → Cell.okWide Tryz.prog W .any base u v := by
      intro i v u hv hu
      obtain ⟨u', h1, h2⟩ := hc i v (by show ([x0, x1, x2, x3, x4, x5, x6, x7, x8, x9, x10] : List Value).toArray[i]? = some v; rw [List.getElem?_toArray]; exact hv)
      have h1 : ([33, 3, 33, 3, 32, 32, 3, 3, 3, 3, 36] : List TypeId)[i % 11]? = some u' := h1
      rw [hu] at h1
      cases h1
      exact h2
    obtain ⟨a0, rfl, h0⟩ := cell_int Tryz.underlying33 (g 0 x0 33 rfl rfl)
    have h0 := in_u32 h0
    obtain ⟨a1, rfl, h1⟩ := cell_int Tryz.underlying3 (g 1 x1 3 rfl rfl)
    have h1 := in_i64 h1
    obtain ⟨a2, rfl, h2⟩ := cell_int Tryz.underlying33 (g 2 x2 33 rfl rfl)
    have h2 := in_u32 h2
    obtain ⟨a3, rfl, h3⟩ := cell_int Tryz.underlying3 (g 3 x3 3 rfl rfl)
    have h3 := in_i64 h3
    obtain ⟨a4, rfl, h4⟩ := cell_int Tryz.underlying32 (g 4 x4 32 rfl rfl)
    have h4 := in_u32 h4
    obtain ⟨a5, rfl, h5⟩ := cell_int Tryz.underlying32 (g 5 x5 32 rfl rfl)
    have h5 := in_u32 h5
    obtain ⟨a6, rfl, h6⟩ := cell_int Tryz.underlying3 (g 6 x6 3 rfl rfl)
    have h6 := in_i64 h6
    obtain ⟨a7, rfl, h7⟩ := cell_int Tryz.underlying3 (g 7 x7 3 rfl rfl)
    have h7 := in_i64 h7
    obtain ⟨a8, rfl, h8⟩ := cell_int Tryz.underlying3 (g 8 x8 3 rfl rfl)
    have h8 := in_i64 h8
    obtain ⟨a9, rfl, h9⟩ := cell_int Tryz.underlying3 (g 9 x9 3 rfl rfl)
    have h9 := in_i64 h9
    obtain ⟨p10, n10, c10, rfl⟩ := cell_slice Tryz.underlying36 (g 10 x10 36 rfl rfl)
    exact ⟨_, _, _, _, _, _, _, _, _, _, _, _, _, rfl, h0, h1, h2, h3, h4, h5, h6, h7, h8, h9⟩

theorem walk (w : World) (a0 : Int) (h0 : (0 ≤ a0 ∧ a0 ≤ 4294967295)) (a1 : Int) (h1 : ((-9223372036854775808) ≤ a1 ∧ a1 ≤ 9223372036854775807)) (a2 : Int) (h2 : (0 ≤ a2 ∧ a2 ≤ 4294967295)) (a3 : Int) (h3 : ((-9223372036854775808) ≤ a3 ∧ a3 ≤ 9223372036854775807)) (a4 : Int) (h4 : (0 ≤ a4 ∧ a4 ≤ 4294967295)) (a5 : Int) (h5 : (0 ≤ a5 ∧ a5 ≤ 4294967295)) (a6 : Int) (h6 : ((-9223372036854775808) ≤ a6 ∧ a6 ≤ 9223372036854775807)) (a7 : Int) (h7 : ((-9223372036854775808) ≤ a7 ∧ a7 ≤ 9223372036854775807)) (a8 : Int) (h8 : ((-9223372036854775808) ≤ a8 ∧ a8 ≤ 9223372036854775807)) (a9 : Int) (h9 : ((-9223372036854775808) ≤ a9 ∧ a9 ≤ 9223372036854775807)) (v10 : Value) (v10_in : RowIn w v10) : Calls Tryz.prog 4 #[.agg #[.int .u32 a0, .int .i64 a1, .int .u32 a2, .int .i64 a3, .int .u32 a4, .int .u32 a5, .int .i64 a6, .int .i64 a7, .int .i64 a8, .int .i64 a9, v10]] w fun e w' => e = .returned (.bool true) ∧ Kp [] w w' := by
  rcases v10_in with rfl | ⟨q10, rfl⟩ | ⟨bb10, oo10, nn10, cc10, zz10, rfl, x1_10, x2_10, x3_10, x4_10, x5_10⟩
  · have hc1 : ((-9223372036854775808) ≤ a1 ∧ a1 ≤ (-1)) ∨ (0 ≤ a1 ∧ a1 ≤ 65535) ∨ (65536 ≤ a1 ∧ a1 ≤ 9223372036854775807) := by omega
    clear h1
    rcases hc1 with h1 | h1 | h1
    · exact pB1L_any w a0 (by omega) a1 (by omega) a2 (by omega) a3 (by omega) a4 (by omega) a5 (by omega) a6 (by omega) a7 (by omega) a8 (by omega) a9 (by omega) none 0 0 (by omega)
    · have hc3 : ((-9223372036854775808) ≤ a3 ∧ a3 ≤ (-1)) ∨ (0 ≤ a3 ∧ a3 ≤ 65535) ∨ (65536 ≤ a3 ∧ a3 ≤ 9223372036854775807) := by omega
      clear h3
      rcases hc3 with h3 | h3 | h3
      · exact pB3L_any w a0 (by omega) a1 (by omega) a2 (by omega) a3 (by omega) a4 (by omega) a5 (by omega) a6 (by omega) a7 (by omega) a8 (by omega) a9 (by omega) none 0 0 (by omega)
      · have hc7 : ((-9223372036854775808) ≤ a7 ∧ a7 ≤ (-1)) ∨ (0 ≤ a7 ∧ a7 ≤ 65535) ∨ (65536 ≤ a7 ∧ a7 ≤ 9223372036854775807) := by omega
        clear h7
        rcases hc7 with h7 | h7 | h7
        · exact pB7L_any w a0 (by omega) a1 (by omega) a2 (by omega) a3 (by omega) a4 (by omega) a5 (by omega) a6 (by omega) a7 (by omega) a8 (by omega) a9 (by omega) none 0 0 (by omega)
        · have hc6 : ((-9223372036854775808) ≤ a6 ∧ a6 ≤ (-1)) ∨ (0 ≤ a6 ∧ a6 ≤ 63) ∨ (64 ≤ a6 ∧ a6 ≤ 9223372036854775807) := by omega
          clear h6
          rcases hc6 with h6 | h6 | h6
          · exact pB6L_any w a0 (by omega) a1 (by omega) a2 (by omega) a3 (by omega) a4 (by omega) a5 (by omega) a6 (by omega) a7 (by omega) a8 (by omega) a9 (by omega) none 0 0 (by omega)
          · have hc8 : ((-9223372036854775808) ≤ a8 ∧ a8 ≤ (-1)) ∨ (0 ≤ a8 ∧ a8 ≤ 0) ∨ (1 ≤ a8 ∧ a8 ≤ 65535) ∨ (65536 ≤ a8 ∧ a8 ≤ 9223372036854775807) := by omega
            clear h8
            rcases hc8 with h8 | h8 | h8 | h8
            · exact pB8L_any w a0 (by omega) a1 (by omega) a2 (by omega) a3 (by omega) a4 (by omega) a5 (by omega) a6 (by omega) a7 (by omega) a8 (by omega) a9 (by omega) none 0 0 (by omega)
            · have hc9 : ((-9223372036854775808) ≤ a9 ∧ a9 ≤ (-2)) ∨ ((-1) ≤ a9 ∧ a9 ≤ (-1)) ∨ (0 ≤ a9 ∧ a9 ≤ 14) ∨ (15 ≤ a9 ∧ a9 ≤ 9223372036854775807) := by omega
              clear h9
              rcases hc9 with h9 | h9 | h9 | h9
              · exact pB9L_any w a0 (by omega) a1 (by omega) a2 (by omega) a3 (by omega) a4 (by omega) a5 (by omega) a6 (by omega) a7 (by omega) a8 (by omega) a9 (by omega) none 0 0 (by omega)
              · exact pZaa_any w a0 (by omega) a1 (by omega) a2 (by omega) a3 (by omega) a4 (by omega) a5 (by omega) a6 (by omega) a7 (by omega) a8 (by omega) a9 (by omega) none 0 0 (by omega)
              · exact pZab_any w a0 (by omega) a1 (by omega) a2 (by omega) a3 (by omega) a4 (by omega) a5 (by omega) a6 (by omega) a7 (by omega) a8 (by omega) a9 (by omega) none 0 0 (by omega)
              · exact pB9H_any w a0 (by omega) a1 (by omega) a2 (by omega) a3 (by omega) a4 (by omega) a5 (by omega) a6 (by omega) a7 (by omega) a8 (by omega) a9 (by omega) none 0 0 (by omega)
            · have hc9 : ((-9223372036854775808) ≤ a9 ∧ a9 ≤ (-2)) ∨ ((-1) ≤ a9 ∧ a9 ≤ (-1)) ∨ (0 ≤ a9 ∧ a9 ≤ 14) ∨ (15 ≤ a9 ∧ a9 ≤ 9223372036854775807) := by omega
              clear h9
              rcases hc9 with h9 | h9 | h9 | h9
              · exact pB9L_any w a0 (by omega) a1 (by omega) a2 (by omega) a3 (by omega) a4 (by omega) a5 (by omega) a6 (by omega) a7 (by omega) a8 (by omega) a9 (by omega) none 0 0 (by omega)
              · exact pZba_any w a0 (by omega) a1 (by omega) a2 (by omega) a3 (by omega) a4 (by omega) a5 (by omega) a6 (by omega) a7 (by omega) a8 (by omega) a9 (by omega) none 0 0 (by omega)
              · exact pZbb_any w a0 (by omega) a1 (by omega) a2 (by omega) a3 (by omega) a4 (by omega) a5 (by omega) a6 (by omega) a7 (by omega) a8 (by omega) a9 (by omega) none 0 0 (by omega)
              · exact pB9H_any w a0 (by omega) a1 (by omega) a2 (by omega) a3 (by omega) a4 (by omega) a5 (by omega) a6 (by omega) a7 (by omega) a8 (by omega) a9 (by omega) none 0 0 (by omega)
            · exact pB8H_any w a0 (by omega) a1 (by omega) a2 (by omega) a3 (by omega) a4 (by omega) a5 (by omega) a6 (by omega) a7 (by omega) a8 (by omega) a9 (by omega) none 0 0 (by omega)
          · exact pB6H_any w a0 (by omega) a1 (by omega) a2 (by omega) a3 (by omega) a4 (by omega) a5 (by omega) a6 (by omega) a7 (by omega) a8 (by omega) a9 (by omega) none 0 0 (by omega)
        · exact pB7H_any w a0 (by omega) a1 (by omega) a2 (by omega) a3 (by omega) a4 (by omega) a5 (by omega) a6 (by omega) a7 (by omega) a8 (by omega) a9 (by omega) none 0 0 (by omega)
      · exact pB3H_any w a0 (by omega) a1 (by omega) a2 (by omega) a3 (by omega) a4 (by omega) a5 (by omega) a6 (by omega) a7 (by omega) a8 (by omega) a9 (by omega) none 0 0 (by omega)
    · exact pB1H_any w a0 (by omega) a1 (by omega) a2 (by omega) a3 (by omega) a4 (by omega) a5 (by omega) a6 (by omega) a7 (by omega) a8 (by omega) a9 (by omega) none 0 0 (by omega)
  · have hc1 : ((-9223372036854775808) ≤ a1 ∧ a1 ≤ (-1)) ∨ (0 ≤ a1 ∧ a1 ≤ 65535) ∨ (65536 ≤ a1 ∧ a1 ≤ 9223372036854775807) := by omega
    clear h1
    rcases hc1 with h1 | h1 | h1
    · exact pB1L_any w a0 (by omega) a1 (by omega) a2 (by omega) a3 (by omega) a4 (by omega) a5 (by omega) a6 (by omega) a7 (by omega) a8 (by omega) a9 (by omega) (some q10) 0 0 (by omega)
    · have hc3 : ((-9223372036854775808) ≤ a3 ∧ a3 ≤ (-1)) ∨ (0 ≤ a3 ∧ a3 ≤ 65535) ∨ (65536 ≤ a3 ∧ a3 ≤ 9223372036854775807) := by omega
      clear h3
      rcases hc3 with h3 | h3 | h3
      · exact pB3L_any w a0 (by omega) a1 (by omega) a2 (by omega) a3 (by omega) a4 (by omega) a5 (by omega) a6 (by omega) a7 (by omega) a8 (by omega) a9 (by omega) (some q10) 0 0 (by omega)
      · have hc7 : ((-9223372036854775808) ≤ a7 ∧ a7 ≤ (-1)) ∨ (0 ≤ a7 ∧ a7 ≤ 65535) ∨ (65536 ≤ a7 ∧ a7 ≤ 9223372036854775807) := by omega
        clear h7
        rcases hc7 with h7 | h7 | h7
        · exact pB7L_any w a0 (by omega) a1 (by omega) a2 (by omega) a3 (by omega) a4 (by omega) a5 (by omega) a6 (by omega) a7 (by omega) a8 (by omega) a9 (by omega) (some q10) 0 0 (by omega)
        · have hc6 : ((-9223372036854775808) ≤ a6 ∧ a6 ≤ (-1)) ∨ (0 ≤ a6 ∧ a6 ≤ 63) ∨ (64 ≤ a6 ∧ a6 ≤ 9223372036854775807) := by omega
          clear h6
          rcases hc6 with h6 | h6 | h6
          · exact pB6L_any w a0 (by omega) a1 (by omega) a2 (by omega) a3 (by omega) a4 (by omega) a5 (by omega) a6 (by omega) a7 (by omega) a8 (by omega) a9 (by omega) (some q10) 0 0 (by omega)
          · have hc8 : ((-9223372036854775808) ≤ a8 ∧ a8 ≤ (-1)) ∨ (0 ≤ a8 ∧ a8 ≤ 0) ∨ (1 ≤ a8 ∧ a8 ≤ 65535) ∨ (65536 ≤ a8 ∧ a8 ≤ 9223372036854775807) := by omega
            clear h8
            rcases hc8 with h8 | h8 | h8 | h8
            · exact pB8L_any w a0 (by omega) a1 (by omega) a2 (by omega) a3 (by omega) a4 (by omega) a5 (by omega) a6 (by omega) a7 (by omega) a8 (by omega) a9 (by omega) (some q10) 0 0 (by omega)
            · have hc9 : ((-9223372036854775808) ≤ a9 ∧ a9 ≤ (-2)) ∨ ((-1) ≤ a9 ∧ a9 ≤ (-1)) ∨ (0 ≤ a9 ∧ a9 ≤ 14) ∨ (15 ≤ a9 ∧ a9 ≤ 9223372036854775807) := by omega
              clear h9
              rcases hc9 with h9 | h9 | h9 | h9
              · exact pB9L_any w a0 (by omega) a1 (by omega) a2 (by omega) a3 (by omega) a4 (by omega) a5 (by omega) a6 (by omega) a7 (by omega) a8 (by omega) a9 (by omega) (some q10) 0 0 (by omega)
              · exact pZaa_any w a0 (by omega) a1 (by omega) a2 (by omega) a3 (by omega) a4 (by omega) a5 (by omega) a6 (by omega) a7 (by omega) a8 (by omega) a9 (by omega) (some q10) 0 0 (by omega)
              · exact pZab_any w a0 (by omega) a1 (by omega) a2 (by omega) a3 (by omega) a4 (by omega) a5 (by omega) a6 (by omega) a7 (by omega) a8 (by omega) a9 (by omega) (some q10) 0 0 (by omega)
              · exact pB9H_any w a0 (by omega) a1 (by omega) a2 (by omega) a3 (by omega) a4 (by omega) a5 (by omega) a6 (by omega) a7 (by omega) a8 (by omega) a9 (by omega) (some q10) 0 0 (by omega)
            · have hc9 : ((-9223372036854775808) ≤ a9 ∧ a9 ≤ (-2)) ∨ ((-1) ≤ a9 ∧ a9 ≤ (-1)) ∨ (0 ≤ a9 ∧ a9 ≤ 14) ∨ (15 ≤ a9 ∧ a9 ≤ 9223372036854775807) := by omega
              clear h9
              rcases hc9 with h9 | h9 | h9 | h9
              · exact pB9L_any w a0 (by omega) a1 (by omega) a2 (by omega) a3 (by omega) a4 (by omega) a5 (by omega) a6 (by omega) a7 (by omega) a8 (by omega) a9 (by omega) (some q10) 0 0 (by omega)
              · exact pZba_any w a0 (by omega) a1 (by omega) a2 (by omega) a3 (by omega) a4 (by omega) a5 (by omega) a6 (by omega) a7 (by omega) a8 (by omega) a9 (by omega) (some q10) 0 0 (by omega)
              · exact pZbb_any w a0 (by omega) a1 (by omega) a2 (by omega) a3 (by omega) a4 (by omega) a5 (by omega) a6 (by omega) a7 (by omega) a8 (by omega) a9 (by omega) (some q10) 0 0 (by omega)
              · exact pB9H_any w a0 (by omega) a1 (by omega) a2 (by omega) a3 (by omega) a4 (by omega) a5 (by omega) a6 (by omega) a7 (by omega) a8 (by omega) a9 (by omega) (some q10) 0 0 (by omega)
            · exact pB8H_any w a0 (by omega) a1 (by omega) a2 (by omega) a3 (by omega) a4 (by omega) a5 (by omega) a6 (by omega) a7 (by omega) a8 (by omega) a9 (by omega) (some q10) 0 0 (by omega)
          · exact pB6H_any w a0 (by omega) a1 (by omega) a2 (by omega) a3 (by omega) a4 (by omega) a5 (by omega) a6 (by omega) a7 (by omega) a8 (by omega) a9 (by omega) (some q10) 0 0 (by omega)
        · exact pB7H_any w a0 (by omega) a1 (by omega) a2 (by omega) a3 (by omega) a4 (by omega) a5 (by omega) a6 (by omega) a7 (by omega) a8 (by omega) a9 (by omega) (some q10) 0 0 (by omega)
      · exact pB3H_any w a0 (by omega) a1 (by omega) a2 (by omega) a3 (by omega) a4 (by omega) a5 (by omega) a6 (by omega) a7 (by omega) a8 (by omega) a9 (by omega) (some q10) 0 0 (by omega)
    · exact pB1H_any w a0 (by omega) a1 (by omega) a2 (by omega) a3 (by omega) a4 (by omega) a5 (by omega) a6 (by omega) a7 (by omega) a8 (by omega) a9 (by omega) (some q10) 0 0 (by omega)
  · obtain ⟨r10, hr10, k10⟩ : ∃ r : RowD, r = ⟨nn10, bb10, oo10, cc10, zz10⟩ ∧ r.Ok w := ⟨_, rfl, ⟨x1_10, x2_10, x3_10, x4_10, x5_10⟩⟩
    have hv10 : Value.slice (some ⟨bb10, oo10, none⟩) nn10 cc10 = r10.v := by rw [hr10]; rfl
    rw [hv10]
    clear hr10 hv10 x1_10 x2_10 x3_10 x4_10 x5_10
    have mx10 : r10.n ≤ 9223372036854775807 := Nat.le_trans k10.le k10.mx
    have hc10 : (0 ≤ (r10.n : Int) ∧ (r10.n : Int) ≤ 0) ∨ (1 ≤ (r10.n : Int) ∧ (r10.n : Int) ≤ 20000) ∨ (20001 ≤ (r10.n : Int) ∧ (r10.n : Int) ≤ 9223372036854775807) := by omega
    rcases hc10 with hc10 | hc10 | hc10
    · have hc1 : ((-9223372036854775808) ≤ a1 ∧ a1 ≤ (-1)) ∨ (0 ≤ a1 ∧ a1 ≤ 65535) ∨ (65536 ≤ a1 ∧ a1 ≤ 9223372036854775807) := by omega
      clear h1
      rcases hc1 with h1 | h1 | h1
      · exact pB1L_any w a0 (by omega) a1 (by omega) a2 (by omega) a3 (by omega) a4 (by omega) a5 (by omega) a6 (by omega) a7 (by omega) a8 (by omega) a9 (by omega) _ r10.n r10.c (by omega)
      · have hc3 : ((-9223372036854775808) ≤ a3 ∧ a3 ≤ (-1)) ∨ (0 ≤ a3 ∧ a3 ≤ 65535) ∨ (65536 ≤ a3 ∧ a3 ≤ 9223372036854775807) := by omega
        clear h3
        rcases hc3 with h3 | h3 | h3
        · exact pB3L_any w a0 (by omega) a1 (by omega) a2 (by omega) a3 (by omega) a4 (by omega) a5 (by omega) a6 (by omega) a7 (by omega) a8 (by omega) a9 (by omega) _ r10.n r10.c (by omega)
        · have hc7 : ((-9223372036854775808) ≤ a7 ∧ a7 ≤ (-1)) ∨ (0 ≤ a7 ∧ a7 ≤ 65535) ∨ (65536 ≤ a7 ∧ a7 ≤ 9223372036854775807) := by omega
          clear h7
          rcases hc7 with h7 | h7 | h7
          · exact pB7L_any w a0 (by omega) a1 (by omega) a2 (by omega) a3 (by omega) a4 (by omega) a5 (by omega) a6 (by omega) a7 (by omega) a8 (by omega) a9 (by omega) _ r10.n r10.c (by omega)
          · have hc6 : ((-9223372036854775808) ≤ a6 ∧ a6 ≤ (-1)) ∨ (0 ≤ a6 ∧ a6 ≤ 63) ∨ (64 ≤ a6 ∧ a6 ≤ 9223372036854775807) := by omega
            clear h6
            rcases hc6 with h6 | h6 | h6
            · exact pB6L_any w a0 (by omega) a1 (by omega) a2 (by omega) a3 (by omega) a4 (by omega) a5 (by omega) a6 (by omega) a7 (by omega) a8 (by omega) a9 (by omega) _ r10.n r10.c (by omega)
            · have hc8 : ((-9223372036854775808) ≤ a8 ∧ a8 ≤ (-1)) ∨ (0 ≤ a8 ∧ a8 ≤ 0) ∨ (1 ≤ a8 ∧ a8 ≤ 65535) ∨ (65536 ≤ a8 ∧ a8 ≤ 9223372036854775807) := by omega
              clear h8
              rcases hc8 with h8 | h8 | h8 | h8
              · exact pB8L_any w a0 (by omega) a1 (by omega) a2 (by omega) a3 (by omega) a4 (by omega) a5 (by omega) a6 (by omega) a7 (by omega) a8 (by omega) a9 (by omega) _ r10.n r10.c (by omega)
              · have hc9 : ((-9223372036854775808) ≤ a9 ∧ a9 ≤ (-2)) ∨ ((-1) ≤ a9 ∧ a9 ≤ (-1)) ∨ (0 ≤ a9 ∧ a9 ≤ 14) ∨ (15 ≤ a9 ∧ a9 ≤ 9223372036854775807) := by omega
                clear h9
                rcases hc9 with h9 | h9 | h9 | h9
                · exact pB9L_any w a0 (by omega) a1 (by omega) a2 (by omega) a3 (by omega) a4 (by omega) a5 (by omega) a6 (by omega) a7 (by omega) a8 (by omega) a9 (by omega) _ r10.n r10.c (by omega)
                · exact pZaa_any w a0 (by omega) a1 (by omega) a2 (by omega) a3 (by omega) a4 (by omega) a5 (by omega) a6 (by omega) a7 (by omega) a8 (by omega) a9 (by omega) _ r10.n r10.c (by omega)
                · exact pZab_any w a0 (by omega) a1 (by omega) a2 (by omega) a3 (by omega) a4 (by omega) a5 (by omega) a6 (by omega) a7 (by omega) a8 (by omega) a9 (by omega) _ r10.n r10.c (by omega)
                · exact pB9H_any w a0 (by omega) a1 (by omega) a2 (by omega) a3 (by omega) a4 (by omega) a5 (by omega) a6 (by omega) a7 (by omega) a8 (by omega) a9 (by omega) _ r10.n r10.c (by omega)
              · have hc9 : ((-9223372036854775808) ≤ a9 ∧ a9 ≤ (-2)) ∨ ((-1) ≤ a9 ∧ a9 ≤ (-1)) ∨ (0 ≤ a9 ∧ a9 ≤ 14) ∨ (15 ≤ a9 ∧ a9 ≤ 9223372036854775807) := by omega
                clear h9
                rcases hc9 with h9 | h9 | h9 | h9
                · exact pB9L_any w a0 (by omega) a1 (by omega) a2 (by omega) a3 (by omega) a4 (by omega) a5 (by omega) a6 (by omega) a7 (by omega) a8 (by omega) a9 (by omega) _ r10.n r10.c (by omega)
                · exact pZba_any w a0 (by omega) a1 (by omega) a2 (by omega) a3 (by omega) a4 (by omega) a5 (by omega) a6 (by omega) a7 (by omega) a8 (by omega) a9 (by omega) _ r10.n r10.c (by omega)
                · exact pZbb_any w a0 (by omega) a1 (by omega) a2 (by omega) a3 (by omega) a4 (by omega) a5 (by omega) a6 (by omega) a7 (by omega) a8 (by omega) a9 (by omega) _ r10.n r10.c (by omega)
                · exact pB9H_any w a0 (by omega) a1 (by omega) a2 (by omega) a3 (by omega) a4 (by omega) a5 (by omega) a6 (by omega) a7 (by omega) a8 (by omega) a9 (by omega) _ r10.n r10.c (by omega)
              · exact pB8H_any w a0 (by omega) a1 (by omega) a2 (by omega) a3 (by omega) a4 (by omega) a5 (by omega) a6 (by omega) a7 (by omega) a8 (by omega) a9 (by omega) _ r10.n r10.c (by omega)
            · exact pB6H_any w a0 (by omega) a1 (by omega) a2 (by omega) a3 (by omega) a4 (by omega) a5 (by omega) a6 (by omega) a7 (by omega) a8 (by omega) a9 (by omega) _ r10.n r10.c (by omega)
          · exact pB7H_any w a0 (by omega) a1 (by omega) a2 (by omega) a3 (by omega) a4 (by omega) a5 (by omega) a6 (by omega) a7 (by omega) a8 (by omega) a9 (by omega) _ r10.n r10.c (by omega)
        · exact pB3H_any w a0 (by omega) a1 (by omega) a2 (by omega) a3 (by omega) a4 (by omega) a5 (by omega) a6 (by omega) a7 (by omega) a8 (by omega) a9 (by omega) _ r10.n r10.c (by omega)
      · exact pB1H_any w a0 (by omega) a1 (by omega) a2 (by omega) a3 (by omega) a4 (by omega) a5 (by omega) a6 (by omega) a7 (by omega) a8 (by omega) a9 (by omega) _ r10.n r10.c (by omega)
    · have hc1 : ((-9223372036854775808) ≤ a1 ∧ a1 ≤ (-1)) ∨ (0 ≤ a1 ∧ a1 ≤ 65535) ∨ (65536 ≤ a1 ∧ a1 ≤ 9223372036854775807) := by omega
      clear h1
      rcases hc1 with h1 | h1 | h1
      · exact pB1L_any w a0 (by omega) a1 (by omega) a2 (by omega) a3 (by omega) a4 (by omega) a5 (by omega) a6 (by omega) a7 (by omega) a8 (by omega) a9 (by omega) _ r10.n r10.c (by omega)
      · have hc3 : ((-9223372036854775808) ≤ a3 ∧ a3 ≤ (-1)) ∨ (0 ≤ a3 ∧ a3 ≤ 65535) ∨ (65536 ≤ a3 ∧ a3 ≤ 9223372036854775807) := by omega
        clear h3
        rcases hc3 with h3 | h3 | h3
        · exact pB3L_any w a0 (by omega) a1 (by omega) a2 (by omega) a3 (by omega) a4 (by omega) a5 (by omega) a6 (by omega) a7 (by omega) a8 (by omega) a9 (by omega) _ r10.n r10.c (by omega)
        · have hc7 : ((-9223372036854775808) ≤ a7 ∧ a7 ≤ (-1)) ∨ (0 ≤ a7 ∧ a7 ≤ 65535) ∨ (65536 ≤ a7 ∧ a7 ≤ 9223372036854775807) := by omega
          clear h7
          rcases hc7 with h7 | h7 | h7
          · exact pB7L_any w a0 (by omega) a1 (by omega) a2 (by omega) a3 (by omega) a4 (by omega) a5 (by omega) a6 (by omega) a7 (by omega) a8 (by omega) a9 (by omega) _ r10.n r10.c (by omega)
          · have hc6 : ((-9223372036854775808) ≤ a6 ∧ a6 ≤ (-1)) ∨ (0 ≤ a6 ∧ a6 ≤ 63) ∨ (64 ≤ a6 ∧ a6 ≤ 9223372036854775807) := by omega
            clear h6
            rcases hc6 with h6 | h6 | h6
            · exact pB6L_any w a0 (by omega) a1 (by omega) a2 (by omega) a3 (by omega) a4 (by omega) a5 (by omega) a6 (by omega) a7 (by omega) a8 (by omega) a9 (by omega) _ r10.n r10.c (by omega)
            · have hc8 : ((-9223372036854775808) ≤ a8 ∧ a8 ≤ (-1)) ∨ (0 ≤ a8 ∧ a8 ≤ 0) ∨ (1 ≤ a8 ∧ a8 ≤ 65535) ∨ (65536 ≤ a8 ∧ a8 ≤ 9223372036854775807) := by omega
              clear h8
              rcases hc8 with h8 | h8 | h8 | h8
              · exact pB8L_any w a0 (by omega) a1 (by omega) a2 (by omega) a3 (by omega) a4 (by omega) a5 (by omega) a6 (by omega) a7 (by omega) a8 (by omega) a9 (by omega) _ r10.n r10.c (by omega)
              · have hc9 : ((-9223372036854775808) ≤ a9 ∧ a9 ≤ (-2)) ∨ ((-1) ≤ a9 ∧ a9 ≤ (-1)) ∨ (0 ≤ a9 ∧ a9 ≤ 14) ∨ (15 ≤ a9 ∧ a9 ≤ 9223372036854775807) := by omega
                clear h9
                rcases hc9 with h9 | h9 | h9 | h9
                · exact pB9L_any w a0 (by omega) a1 (by omega) a2 (by omega) a3 (by omega) a4 (by omega) a5 (by omega) a6 (by omega) a7 (by omega) a8 (by omega) a9 (by omega) _ r10.n r10.c (by omega)
                · exact pMaa_any w a0 (by omega) a1 (by omega) a2 (by omega) a3 (by omega) a4 (by omega) a5 (by omega) a6 (by omega) a7 (by omega) a8 (by omega) a9 (by omega) r10 k10 (by omega)
                · exact pMab_any w a0 (by omega) a1 (by omega) a2 (by omega) a3 (by omega) a4 (by omega) a5 (by omega) a6 (by omega) a7 (by omega) a8 (by omega) a9 (by omega) r10 k10 (by omega)
                · exact pB9H_any w a0 (by omega) a1 (by omega) a2 (by omega) a3 (by omega) a4 (by omega) a5 (by omega) a6 (by omega) a7 (by omega) a8 (by omega) a9 (by omega) _ r10.n r10.c (by omega)
              · have hc9 : ((-9223372036854775808) ≤ a9 ∧ a9 ≤ (-2)) ∨ ((-1) ≤ a9 ∧ a9 ≤ (-1)) ∨ (0 ≤ a9 ∧ a9 ≤ 14) ∨ (15 ≤ a9 ∧ a9 ≤ 9223372036854775807) := by omega
                clear h9
                rcases hc9 with h9 | h9 | h9 | h9
                · exact pB9L_any w a0 (by omega) a1 (by omega) a2 (by omega) a3 (by omega) a4 (by omega) a5 (by omega) a6 (by omega) a7 (by omega) a8 (by omega) a9 (by omega) _ r10.n r10.c (by omega)
                · exact pMba_any w a0 (by omega) a1 (by omega) a2 (by omega) a3 (by omega) a4 (by omega) a5 (by omega) a6 (by omega) a7 (by omega) a8 (by omega) a9 (by omega) r10 k10 (by omega)
                · exact pMbb_any w a0 (by omega) a1 (by omega) a2 (by omega) a3 (by omega) a4 (by omega) a5 (by omega) a6 (by omega) a7 (by omega) a8 (by omega) a9 (by omega) r10 k10 (by omega)
                · exact pB9H_any w a0 (by omega) a1 (by omega) a2 (by omega) a3 (by omega) a4 (by omega) a5 (by omega) a6 (by omega) a7 (by omega) a8 (by omega) a9 (by omega) _ r10.n r10.c (by omega)
              · exact pB8H_any w a0 (by omega) a1 (by omega) a2 (by omega) a3 (by omega) a4 (by omega) a5 (by omega) a6 (by omega) a7 (by omega) a8 (by omega) a9 (by omega) _ r10.n r10.c (by omega)
            · exact pB6H_any w a0 (by omega) a1 (by omega) a2 (by omega) a3 (by omega) a4 (by omega) a5 (by omega) a6 (by omega) a7 (by omega) a8 (by omega) a9 (by omega) _ r10.n r10.c (by omega)
          · exact pB7H_any w a0 (by omega) a1 (by omega) a2 (by omega) a3 (by omega) a4 (by omega) a5 (by omega) a6 (by omega) a7 (by omega) a8 (by omega) a9 (by omega) _ r10.n r10.c (by omega)
        · exact pB3H_any w a0 (by omega) a1 (by omega) a2 (by omega) a3 (by omega) a4 (by omega) a5 (by omega) a6 (by omega) a7 (by omega) a8 (by omega) a9 (by omega) _ r10.n r10.c (by omega)
      · exact pB1H_any w a0 (by omega) a1 (by omega) a2 (by omega) a3 (by omega) a4 (by omega) a5 (by omega) a6 (by omega) a7 (by omega) a8 (by omega) a9 (by omega) _ r10.n r10.c (by omega)
    · exact pL_any w a0 (by omega) a1 (by omega) a2 (by omega) a3 (by omega) a4 (by omega) a5 (by omega) a6 (by omega) a7 (by omega) a8 (by omega) a9 (by omega) _ r10.n r10.c (by omega)

set_option maxRecDepth 100000 in
theorem lifted (os : Os) (started : os.Started) (H : Type) (enc : TypeId × Value → H) :
    ReturnsInHanded {} Tryz.checked os 4 .any (Rows.hubStraysSpec.pre6 enc Tryz.prog Tryz.f4 Rows.hubStraysRow.domain false) (Rows.hubStraysSpec.post enc Tryz.prog Tryz.f4 false true false false) := by
  refine returnsInHanded_of_change (C := Tryz.checked) own started (by kernel_rfl) Tryz.func4
    (ChangeSpec.witness6 (enc := enc) (C := Tryz.checked) false ⟨#[], #[.agg #[.int .u32 0, .int .i64 0, .int .u32 0, .int .i64 0, .int .u32 0, .int .u32 0, .int .i64 0, .int .i64 0, .int .i64 0, .int .i64 0, .slice none 0 0]], []⟩ 8 (by kernel_rfl) (by kernel_rfl) (by kernel_rfl) (by kernel_rfl)) ?_
  intro W base args ds gs before hval0 hW hcnd _
  have hval : ∀ (j : Nat) t v, Tryz.f4.params[j]? = some t → args[j]? = some v → Value.okWide Tryz.prog W .any base t v := hval0
  have hW' := hW
  obtain ⟨p, q, hA0, hV, rfl, hfz, hnd⟩ := hW
  have hA : DataW.TrodAll enc Tryz.prog W 0 (fun _ => true) true Tryz.f4.params.toList args.toList ds p := hA0
  rw [Tryz.params4] at hA hval
  obtain ⟨v0, vs0, d0, ds0, p_0, q0, hargs, rfl, rfl, k0, r0⟩ := trodAll_cons hA
  obtain ⟨rfl, rfl, rfl⟩ := trodAll_nil r0
  obtain rfl : args = #[v0] := by cases args; simp_all
  obtain ⟨rfl, rfl⟩ := trodVars_none hV
  have lt0 : ∀ x ∈ p_0, x.block < W.heap.size := by obtain ⟨m, hm⟩ := k0; exact DataW.trod_lt m _ _ _ hm
  obtain ⟨a0, a1, a2, a3, a4, a5, a6, a7, a8, a9, p10, n10, c10, rfl, hh0, hh1, hh2, hh3, hh4, hh5, hh6, hh7, hh8, hh9⟩ := open_api_Segment (hval 0 38 v0 rfl rfl)
  have hrow10 : RowIn W (.slice p10 n10 c10) := by
    obtain ⟨fuel, hf⟩ := k0
    obtain ⟨fuel', y, hy⟩ := trod_field_at Tryz.underlying38 hf (j := 10) rfl
    rw [show Tryz.prog.cellsOf _ = 1 from (by kernel_rfl : Tryz.prog.cellsOf 36 = 1)] at hy
    exact open_row Tryz.underlying36 Tryz.underlying5 (by kernel_rfl) hy
  clear hA0 hval0
  refine (walk W a0 hh0 a1 hh1 a2 hh2 a3 hh3 a4 hh4 a5 hh5 a6 hh6 a7 hh7 a8 hh8 a9 hh9 _ hrow10).mono fun e W' ⟨he, hg⟩ => ?_
  subst he
  have bel := hg.below0
  exact ⟨_, rfl, _, _, _, [], _, [], hW', trodAll_mk1 (shut_bool Tryz.underlying4 _), (trodAll_cons_mk (Below.trod laid_out (by kernel_rfl) (of_decide_eq_true (by kernel_rfl)) k0 bel lt0) trodAll_mk0), rfl, bel.frame _, fun h => by cases h⟩

theorem over : Rows.hubStraysRow.holds Tryz.pinned (OpenSpec.ofChange Rows.hubStraysSpec) :=
  OpenClaim.holds_of_wide 4 Tryz.f4 rfl rfl rfl rfl rfl rfl rfl ⟨rfl, rfl, rfl, rfl, rfl⟩ rfl rfl rfl rfl rfl j_func Tryz.func4 joined
    (of_decide_eq_true (by kernel_rfl)) (by unfold Func.isWrapper; first | (rw [if_pos (by decide +kernel)]; kernel_rfl) | (rw [if_neg (by decide +kernel)]; exact ⟨rfl, rfl⟩))
    (fun os started H enc _ => lifted os started H enc)

theorem proved : Rows.HubStraysSaid := over
end Go.Proofs.YtlmpmmcefdhgmaaGreat.hubStrays

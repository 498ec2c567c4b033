/-
  It is proved that whoever asks for a host's address is told its MAC; whoever asks for another one's is not (wharflaw19.HostAnswers). No condition.
-/
import Derived.Test.YtfiefdkgneilkaaGreatRows
import Derived.WalkKit
import Derived.ProofKit
import Derived.OpenShut
import Derived.Below
import Derived.Test.YtfiefdkgneilkaaGreatPaHostAnswersA0
import Derived.Test.YtfiefdkgneilkaaGreatPaHostAnswersB0
import Derived.Test.YtfiefdkgneilkaaGreatPaHostAnswersB1
import Derived.Test.YtfiefdkgneilkaaGreatPaHostAnswersB2
import Derived.Test.YtfiefdkgneilkaaGreatPaHostAnswersB3
import Derived.Test.YtfiefdkgneilkaaGreatPaHostAnswersB4
import Derived.Test.YtfiefdkgneilkaaGreatPaHostAnswersA5
import Derived.Test.YtfiefdkgneilkaaGreatPaHostAnswersB5
import Derived.Test.YtfiefdkgneilkaaGreatPaHostAnswersE
import Derived.Test.YtfiefdkgneilkaaGreatJfHostAnswers
namespace Go.Proofs.YtfiefdkgneilkaaGreat.hostAnswers
open Go.ChangeShapes Go.WideShapes Go.ChangeAt Go.RowKit
open Go
set_option linter.unusedVariables false
set_option linter.unusedSimpArgs false

theorem own : ownKnob Tryz.prog.godebug = none := by kernel_rfl
section
variable {P : Program} {w : World} {r : Reach} {base : Nat} {t : TypeId} {v : Value}
theorem cell_int {k : IntKind} (ht : P.underlying t = some (.int k)) (h : Cell.okWide P w r base t v) : ∃ n, v = .int k n ∧ k.min ≤ n ∧ n ≤ k.max := by
  simp only [Cell.okWide, ht] at h
  cases v <;> simp_all [Cell.ok, IntKind.has]
theorem cell_bool (ht : P.underlying t = some .bool) (h : Cell.okWide P w r base t v) : ∃ b, v = .bool b := by
  simp only [Cell.okWide, ht] at h
  cases v <;> simp_all [Cell.ok]
theorem cell_slice {e : TypeId} (ht : P.underlying t = some (.slice e)) (h : Cell.okWide P w r base t v) : ∃ a n c, v = .slice a n c ∧ (n : Int) ≤ 9223372036854775807 := by
  simp only [Cell.okWide, ht] at h
  have hmax : IntKind.i64.max = 9223372036854775807 := by decide
  cases v with
  | slice a n c =>
    refine ⟨a, n, c, rfl, ?_⟩
    cases a with
    | none =>
      cases n with
      | zero => omega
      | succ n => simp [Cell.ok, ht] at h
    | some a =>
      simp only [Cell.ok, ht] at h
      rw [hmax] at h
      omega
  | _ => simp_all [Cell.ok]
end
theorem in_i64 {n : Int} (h : IntKind.i64.min ≤ n ∧ n ≤ IntKind.i64.max) : (-9223372036854775808) ≤ n ∧ n ≤ 9223372036854775807 := by
  rw [show IntKind.i64.min = (-9223372036854775808) by decide, show IntKind.i64.max = 9223372036854775807 by decide] at h
  exact h
theorem in_u32 {n : Int} (h : IntKind.u32.min ≤ n ∧ n ≤ IntKind.u32.max) : 0 ≤ n ∧ n ≤ 4294967295 := by
  rw [show IntKind.u32.min = 0 by decide, show IntKind.u32.max = 4294967295 by decide] at h
  exact h
theorem in_u8 {n : Int} (h : IntKind.u8.min ≤ n ∧ n ≤ IntKind.u8.max) : 0 ≤ n ∧ n ≤ 255 := by
  rw [show IntKind.u8.min = 0 by decide, show IntKind.u8.max = 255 by decide] at h
  exact h
theorem cells_api_ARP : Tryz.prog.cellTypes Tryz.prog.depth 83 = some [3, 5, 5, 5, 5, 5, 5, 23, 5, 5, 5, 5, 5, 5, 23] := by kernel_rfl
set_option maxRecDepth 100000 in
theorem open_api_ARP {W : World} {base : Nat} {v : Value} (h : Value.okWide Tryz.prog W .any base 83 v) : ∃ (a0 : Int) (a1 : Int) (a2 : Int) (a3 : Int) (a4 : Int) (a5 : Int) (a6 : Int) (a7 : Int) (a8 : Int) (a9 : Int) (a10 : Int) (a11 : Int) (a12 : Int) (a13 : Int) (a14 : Int), v = .agg #[.int .i64 a0, .int .u8 a1, .int .u8 a2, .int .u8 a3, .int .u8 a4, .int .u8 a5, .int .u8 a6, .int .u32 a7, .int .u8 a8, .int .u8 a9, .int .u8 a10, .int .u8 a11, .int .u8 a12, .int .u8 a13, .int .u32 a14] ∧ ((-9223372036854775808) ≤ a0 ∧ a0 ≤ 9223372036854775807) ∧ (0 ≤ a1 ∧ a1 ≤ 255) ∧ (0 ≤ a2 ∧ a2 ≤ 255) ∧ (0 ≤ a3 ∧ a3 ≤ 255) ∧ (0 ≤ a4 ∧ a4 ≤ 255) ∧ (0 ≤ a5 ∧ a5 ≤ 255) ∧ (0 ≤ a6 ∧ a6 ≤ 255) ∧ (0 ≤ a7 ∧ a7 ≤ 4294967295) ∧ (0 ≤ a8 ∧ a8 ≤ 255) ∧ (0 ≤ a9 ∧ a9 ≤ 255) ∧ (0 ≤ a10 ∧ a10 ≤ 255) ∧ (0 ≤ a11 ∧ a11 ≤ 255) ∧ (0 ≤ a12 ∧ a12 ≤ 255) ∧ (0 ≤ a13 ∧ a13 ≤ 255) ∧ (0 ≤ a14 ∧ a14 ≤ 4294967295) := by
  simp only [Value.okWide, Tryz.underlying83] at h
  obtain ⟨cs, rfl, hsz, ts, hts, _, hc⟩ := h
  rw [cells_api_ARP] at hts
  cases hts
  have hsz : cs.size = 15 := by rw [hsz]; kernel_rfl
  obtain ⟨l⟩ := cs
  match l, hsz with
  | [x0, x1, x2, x3, x4, x5, x6, x7, x8, x9, x10, x11, x12, x13, x14], _ =>
    have g : ∀ i v u, [x0, x1, x2, x3, x4, x5, x6, x7, x8, x9, x10, x11, x12, x13, x14][i]? = some v → ([3, 5, 5, 5, 5, 5, 5, 23, 5, 5, 5, 5, 5, 5, 23] : List TypeId)[i % 15]? = some u → Cell.okWide Tryz.prog W .any base u v := by
      intro i v u hv hu
      obtain ⟨u', h1, h2⟩ := hc i v (by show ([x0, x1, x2, x3, x4, x5, x6, x7, x8, x9, x10, x11, x12, x13, x14] : List Value).toArray[i]? = some v; rw [List.getElem?_toArray]; exact hv)
      have h1 : ([3, 5, 5, 5, 5, 5, 5, 23, 5, 5, 5, 5, 5, 5, 23] : List TypeId)[i % 15]? = some u' := h1
      rw [hu] at h1
      cases h1
      exact h2
    obtain ⟨a0, rfl, h0⟩ := cell_int Tryz.underlying3 (g 0 x0 3 rfl rfl)
    have h0 := in_i64 h0
    obtain ⟨a1, rfl, h1⟩ := cell_int Tryz.underlying5 (g 1 x1 5 rfl rfl)
    have h1 := in_u8 h1
    obtain ⟨a2, rfl, h2⟩ := cell_int Tryz.underlying5 (g 2 x2 5 rfl rfl)
    have h2 := in_u8 h2
    obtain ⟨a3, rfl, h3⟩ := cell_int Tryz.underlying5 (g 3 x3 5 rfl rfl)
    have h3 := in_u8 h3
    obtain ⟨a4, rfl, h4⟩ := cell_int Tryz.underlying5 (g 4 x4 5 rfl rfl)
    have h4 := in_u8 h4
    obtain ⟨a5, rfl, h5⟩ := cell_int Tryz.underlying5 (g 5 x5 5 rfl rfl)
    have h5 := in_u8 h5
    obtain ⟨a6, rfl, h6⟩ := cell_int Tryz.underlying5 (g 6 x6 5 rfl rfl)
    have h6 := in_u8 h6
    obtain ⟨a7, rfl, h7⟩ := cell_int Tryz.underlying23 (g 7 x7 23 rfl rfl)
    have h7 := in_u32 h7
    obtain ⟨a8, rfl, h8⟩ := cell_int Tryz.underlying5 (g 8 x8 5 rfl rfl)
    have h8 := in_u8 h8
    obtain ⟨a9, rfl, h9⟩ := cell_int Tryz.underlying5 (g 9 x9 5 rfl rfl)
    have h9 := in_u8 h9
    obtain ⟨a10, rfl, h10⟩ := cell_int Tryz.underlying5 (g 10 x10 5 rfl rfl)
    have h10 := in_u8 h10
    obtain ⟨a11, rfl, h11⟩ := cell_int Tryz.underlying5 (g 11 x11 5 rfl rfl)
    have h11 := in_u8 h11
    obtain ⟨a12, rfl, h12⟩ := cell_int Tryz.underlying5 (g 12 x12 5 rfl rfl)
    have h12 := in_u8 h12
    obtain ⟨a13, rfl, h13⟩ := cell_int Tryz.underlying5 (g 13 x13 5 rfl rfl)
    have h13 := in_u8 h13
    obtain ⟨a14, rfl, h14⟩ := cell_int Tryz.underlying23 (g 14 x14 23 rfl rfl)
    have h14 := in_u32 h14
    exact ⟨_, _, _, _, _, _, _, _, _, _, _, _, _, _, _, rfl, h0, h1, h2, h3, h4, h5, h6, h7, h8, h9, h10, h11, h12, h13, h14⟩
theorem cells_api_MAC : Tryz.prog.cellTypes Tryz.prog.depth 65 = some [5, 5, 5, 5, 5, 5] := by kernel_rfl
set_option maxRecDepth 100000 in
theorem open_api_MAC {W : World} {base : Nat} {v : Value} (h : Value.okWide Tryz.prog W .any base 65 v) : ∃ (a0 : Int) (a1 : Int) (a2 : Int) (a3 : Int) (a4 : Int) (a5 : Int), v = .agg #[.int .u8 a0, .int .u8 a1, .int .u8 a2, .int .u8 a3, .int .u8 a4, .int .u8 a5] ∧ (0 ≤ a0 ∧ a0 ≤ 255) ∧ (0 ≤ a1 ∧ a1 ≤ 255) ∧ (0 ≤ a2 ∧ a2 ≤ 255) ∧ (0 ≤ a3 ∧ a3 ≤ 255) ∧ (0 ≤ a4 ∧ a4 ≤ 255) ∧ (0 ≤ a5 ∧ a5 ≤ 255) := by
  simp only [Value.okWide, Tryz.underlying65] at h
  obtain ⟨cs, rfl, hsz, ts, hts, _, hc⟩ := h
  rw [cells_api_MAC] at hts
  cases hts
  have hsz : cs.size = 6 := by rw [hsz]; kernel_rfl
  obtain ⟨l⟩ := cs
  match l, hsz with
  | [x0, x1, x2, x3, x4, x5], _ =>
    have g : ∀ i v u, [x0, x1, x2, x3, x4, x5][i]? = some v → ([5, 5, 5, 5, 5, 5] : List TypeId)[i % 6]? = some u → Cell.okWide Tryz.prog W .any base u v := by
      intro i v u hv hu
      obtain ⟨u', h1, h2⟩ := hc i v (by show ([x0, x1, x2, x3, x4, x5] : List Value).toArray[i]? = some v; rw [List.getElem?_toArray]; exact hv)
      have h1 : ([5, 5, 5, 5, 5, 5] : List TypeId)[i % 6]? = some u' := h1
      rw [hu] at h1
      cases h1
      exact h2
    obtain ⟨a0, rfl, h0⟩ := cell_int Tryz.underlying5 (g 0 x0 5 rfl rfl)
    have h0 := in_u8 h0
    obtain ⟨a1, rfl, h1⟩ := cell_int Tryz.underlying5 (g 1 x1 5 rfl rfl)
    have h1 := in_u8 h1
    obtain ⟨a2, rfl, h2⟩ := cell_int Tryz.underlying5 (g 2 x2 5 rfl rfl)
    have h2 := in_u8 h2
    obtain ⟨a3, rfl, h3⟩ := cell_int Tryz.underlying5 (g 3 x3 5 rfl rfl)
    have h3 := in_u8 h3
    obtain ⟨a4, rfl, h4⟩ := cell_int Tryz.underlying5 (g 4 x4 5 rfl rfl)
    have h4 := in_u8 h4
    obtain ⟨a5, rfl, h5⟩ := cell_int Tryz.underlying5 (g 5 x5 5 rfl rfl)
    have h5 := in_u8 h5
    exact ⟨_, _, _, _, _, _, rfl, h0, h1, h2, h3, h4, h5⟩

theorem walk (a0 : Int) (h0 : ((-9223372036854775808) ≤ a0 ∧ a0 ≤ 9223372036854775807)) (a1 : Int) (h1 : (0 ≤ a1 ∧ a1 ≤ 255)) (a2 : Int) (h2 : (0 ≤ a2 ∧ a2 ≤ 255)) (a3 : Int) (h3 : (0 ≤ a3 ∧ a3 ≤ 255)) (a4 : Int) (h4 : (0 ≤ a4 ∧ a4 ≤ 255)) (a5 : Int) (h5 : (0 ≤ a5 ∧ a5 ≤ 255)) (a6 : Int) (h6 : (0 ≤ a6 ∧ a6 ≤ 255)) (a7 : Int) (h7 : (0 ≤ a7 ∧ a7 ≤ 4294967295)) (a8 : Int) (h8 : (0 ≤ a8 ∧ a8 ≤ 255)) (a9 : Int) (h9 : (0 ≤ a9 ∧ a9 ≤ 255)) (a10 : Int) (h10 : (0 ≤ a10 ∧ a10 ≤ 255)) (a11 : Int) (h11 : (0 ≤ a11 ∧ a11 ≤ 255)) (a12 : Int) (h12 : (0 ≤ a12 ∧ a12 ≤ 255)) (a13 : Int) (h13 : (0 ≤ a13 ∧ a13 ≤ 255)) (a14 : Int) (h14 : (0 ≤ a14 ∧ a14 ≤ 4294967295)) (a15 : Int) (h15 : (0 ≤ a15 ∧ a15 ≤ 255)) (a16 : Int) (h16 : (0 ≤ a16 ∧ a16 ≤ 255)) (a17 : Int) (h17 : (0 ≤ a17 ∧ a17 ≤ 255)) (a18 : Int) (h18 : (0 ≤ a18 ∧ a18 ≤ 255)) (a19 : Int) (h19 : (0 ≤ a19 ∧ a19 ≤ 255)) (a20 : Int) (h20 : (0 ≤ a20 ∧ a20 ≤ 255)) (w : World) : Calls Tryz.prog 8 #[.agg #[.int .i64 a0, .int .u8 a1, .int .u8 a2, .int .u8 a3, .int .u8 a4, .int .u8 a5, .int .u8 a6, .int .u32 a7, .int .u8 a8, .int .u8 a9, .int .u8 a10, .int .u8 a11, .int .u8 a12, .int .u8 a13, .int .u32 a14], .agg #[.int .u8 a15, .int .u8 a16, .int .u8 a17, .int .u8 a18, .int .u8 a19, .int .u8 a20]] w fun e w' => e = .returned (.bool true) ∧ Kp [] w w' := by
  have hc15 : (0 ≤ a15 ∧ a15 ≤ 1) ∨ (3 ≤ a15 ∧ a15 ≤ 255) ∨ (2 ≤ a15 ∧ a15 ≤ 2) := by omega
  clear h15
  rcases hc15 with h15 | h15 | h15
  · exact pA0_any a0 h0 a1 h1 a2 h2 a3 h3 a4 h4 a5 h5 a6 h6 a7 h7 a8 h8 a9 h9 a10 h10 a11 h11 a12 h12 a13 h13 a14 h14 a15 h15 a16 h16 a17 h17 a18 h18 a19 h19 a20 h20 w
  · exact pB0_any a0 h0 a1 h1 a2 h2 a3 h3 a4 h4 a5 h5 a6 h6 a7 h7 a8 h8 a9 h9 a10 h10 a11 h11 a12 h12 a13 h13 a14 h14 a15 h15 a16 h16 a17 h17 a18 h18 a19 h19 a20 h20 w
  · have hc16 : (1 ≤ a16 ∧ a16 ≤ 255) ∨ (0 ≤ a16 ∧ a16 ≤ 0) := by omega
    clear h16
    rcases hc16 with h16 | h16
    · exact pB1_any a0 h0 a1 h1 a2 h2 a3 h3 a4 h4 a5 h5 a6 h6 a7 h7 a8 h8 a9 h9 a10 h10 a11 h11 a12 h12 a13 h13 a14 h14 a15 h15 a16 h16 a17 h17 a18 h18 a19 h19 a20 h20 w
    · have hc17 : (1 ≤ a17 ∧ a17 ≤ 255) ∨ (0 ≤ a17 ∧ a17 ≤ 0) := by omega
      clear h17
      rcases hc17 with h17 | h17
      · exact pB2_any a0 h0 a1 h1 a2 h2 a3 h3 a4 h4 a5 h5 a6 h6 a7 h7 a8 h8 a9 h9 a10 h10 a11 h11 a12 h12 a13 h13 a14 h14 a15 h15 a16 h16 a17 h17 a18 h18 a19 h19 a20 h20 w
      · have hc18 : (1 ≤ a18 ∧ a18 ≤ 255) ∨ (0 ≤ a18 ∧ a18 ≤ 0) := by omega
        clear h18
        rcases hc18 with h18 | h18
        · exact pB3_any a0 h0 a1 h1 a2 h2 a3 h3 a4 h4 a5 h5 a6 h6 a7 h7 a8 h8 a9 h9 a10 h10 a11 h11 a12 h12 a13 h13 a14 h14 a15 h15 a16 h16 a17 h17 a18 h18 a19 h19 a20 h20 w
        · have hc19 : (1 ≤ a19 ∧ a19 ≤ 255) ∨ (0 ≤ a19 ∧ a19 ≤ 0) := by omega
          clear h19
          rcases hc19 with h19 | h19
          · exact pB4_any a0 h0 a1 h1 a2 h2 a3 h3 a4 h4 a5 h5 a6 h6 a7 h7 a8 h8 a9 h9 a10 h10 a11 h11 a12 h12 a13 h13 a14 h14 a15 h15 a16 h16 a17 h17 a18 h18 a19 h19 a20 h20 w
          · have hc20 : (0 ≤ a20 ∧ a20 ≤ 0) ∨ (2 ≤ a20 ∧ a20 ≤ 255) ∨ (1 ≤ a20 ∧ a20 ≤ 1) := by omega
            clear h20
            rcases hc20 with h20 | h20 | h20
            · exact pA5_any a0 h0 a1 h1 a2 h2 a3 h3 a4 h4 a5 h5 a6 h6 a7 h7 a8 h8 a9 h9 a10 h10 a11 h11 a12 h12 a13 h13 a14 h14 a15 h15 a16 h16 a17 h17 a18 h18 a19 h19 a20 h20 w
            · exact pB5_any a0 h0 a1 h1 a2 h2 a3 h3 a4 h4 a5 h5 a6 h6 a7 h7 a8 h8 a9 h9 a10 h10 a11 h11 a12 h12 a13 h13 a14 h14 a15 h15 a16 h16 a17 h17 a18 h18 a19 h19 a20 h20 w
            · exact pE_any a0 h0 a1 h1 a2 h2 a3 h3 a4 h4 a5 h5 a6 h6 a7 h7 a8 h8 a9 h9 a10 h10 a11 h11 a12 h12 a13 h13 a14 h14 a15 h15 a16 h16 a17 h17 a18 h18 a19 h19 a20 h20 w

set_option maxRecDepth 100000 in
theorem lifted (os : Os) (started : os.Started) (H : Type) (enc : TypeId × Value → H) :
    ReturnsInHanded {} Tryz.checked os 8 .any (Rows.hostAnswersSpec.pre6 enc Tryz.prog Tryz.f8 Rows.hostAnswersRow.domain false) (Rows.hostAnswersSpec.post enc Tryz.prog Tryz.f8 false true false false) := by
  refine returnsInHanded_of_change (C := Tryz.checked) own started (by kernel_rfl) Tryz.func8
    (ChangeSpec.witness6 (enc := enc) (C := Tryz.checked) false ⟨#[], #[.agg #[.int .i64 0, .int .u8 0, .int .u8 0, .int .u8 0, .int .u8 0, .int .u8 0, .int .u8 0, .int .u32 0, .int .u8 0, .int .u8 0, .int .u8 0, .int .u8 0, .int .u8 0, .int .u8 0, .int .u32 0], .agg #[.int .u8 0, .int .u8 0, .int .u8 0, .int .u8 0, .int .u8 0, .int .u8 0]], []⟩ 8 (by kernel_rfl) (by kernel_rfl) (by kernel_rfl) (by kernel_rfl)) ?_
  intro W base args ds gs before hval0 hW hcnd _
  have hval : ∀ (j : Nat) t v, Tryz.f8.params[j]? = some t → args[j]? = some v → Value.okWide Tryz.prog W .any base t v := hval0
  have hW' := hW
  obtain ⟨p, q, hA0, hV, rfl, hfz, hnd⟩ := hW
  have hA : DataW.TrodAll enc Tryz.prog W 0 (fun _ => true) true Tryz.f8.params.toList args.toList ds p := hA0
  rw [Tryz.params8] at hA hval
  obtain ⟨v0, vs0, d0, ds0, p_0, q0, hargs, rfl, rfl, k0, r0⟩ := trodAll_cons hA
  obtain ⟨v1, vs1, d1, ds1, p_1, q1, rfl, rfl, rfl, k1, r1⟩ := trodAll_cons r0
  obtain ⟨rfl, rfl, rfl⟩ := trodAll_nil r1
  obtain rfl : args = #[v0, v1] := by cases args; simp_all
  obtain ⟨rfl, rfl⟩ := trodVars_none hV
  have lt0 : ∀ x ∈ p_0, x.block < W.heap.size := by obtain ⟨m, hm⟩ := k0; exact DataW.trod_lt m _ _ _ hm
  have lt1 : ∀ x ∈ p_1, x.block < W.heap.size := by obtain ⟨m, hm⟩ := k1; exact DataW.trod_lt m _ _ _ hm
  obtain ⟨a0, a1, a2, a3, a4, a5, a6, a7, a8, a9, a10, a11, a12, a13, a14, rfl, hh0, hh1, hh2, hh3, hh4, hh5, hh6, hh7, hh8, hh9, hh10, hh11, hh12, hh13, hh14⟩ := open_api_ARP (hval 0 83 v0 rfl rfl)
  obtain ⟨a15, a16, a17, a18, a19, a20, rfl, hh15, hh16, hh17, hh18, hh19, hh20⟩ := open_api_MAC (hval 1 65 v1 rfl rfl)
  clear hA0 hval0
  refine (walk a0 hh0 a1 hh1 a2 hh2 a3 hh3 a4 hh4 a5 hh5 a6 hh6 a7 hh7 a8 hh8 a9 hh9 a10 hh10 a11 hh11 a12 hh12 a13 hh13 a14 hh14 a15 hh15 a16 hh16 a17 hh17 a18 hh18 a19 hh19 a20 hh20 W).mono fun e W' ⟨he, hg⟩ => ?_
  subst he
  have bel := hg.below0
  exact ⟨_, rfl, _, _, _, [], _, [], hW', trodAll_mk1 (shut_bool Tryz.underlying4 _), (trodAll_cons_mk (Below.trod laid_out (by kernel_rfl) (of_decide_eq_true (by kernel_rfl)) k0 bel lt0) (trodAll_cons_mk (Below.trod laid_out (by kernel_rfl) (of_decide_eq_true (by kernel_rfl)) k1 bel lt1) trodAll_mk0)), rfl, bel.frame _, fun h => by cases h⟩

theorem over : Rows.hostAnswersRow.holds Tryz.pinned (OpenSpec.ofChange Rows.hostAnswersSpec) :=
  OpenClaim.holds_of_wide 8 Tryz.f8 rfl rfl rfl rfl rfl rfl rfl ⟨rfl, rfl, rfl, rfl, rfl⟩ rfl rfl rfl rfl rfl j_func Tryz.func8 joined
    (of_decide_eq_true (by kernel_rfl)) (by unfold Func.isWrapper; first | (rw [if_pos (by decide +kernel)]; kernel_rfl) | (rw [if_neg (by decide +kernel)]; exact ⟨rfl, rfl⟩))
    (fun os started H enc _ => lifted os started H enc)

theorem proved : Rows.HostAnswersSaid := over
end Go.Proofs.YtfiefdkgneilkaaGreat.hostAnswers

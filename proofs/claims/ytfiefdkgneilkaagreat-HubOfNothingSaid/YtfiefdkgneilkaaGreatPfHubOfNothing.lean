/-
  It is proved that a nil Hub has no connection (wharflaw18.HubOfNothing). No condition.
-/
import Derived.Test.YtfiefdkgneilkaaGreatRows
import Derived.WalkKit
import Derived.ProofKit
import Derived.OpenShut
import Derived.Below
import Derived.Test.YtfiefdkgneilkaaGreatPaHubOfNothingA
import Derived.Test.YtfiefdkgneilkaaGreatJfHubOfNothing
namespace Go.Proofs.YtfiefdkgneilkaaGreat.hubOfNothing
open Go.ChangeShapes Go.WideShapes Go.ChangeAt Go.RowKit
open Go
set_option linter.unusedVariables false
set_option linter.unusedSimpArgs false

theorem own : ownKnob Tryz.prog.godebug = none := by kernel_rfl
section
variable {P : Program} {w : World} {r : Reach} {base : Nat} {t : TypeId} {v : Value}
theorem cell_int {k : IntKind} (ht : P.underlying t = some (.int k)) (h : Cell.okWide P w r base t v) : ∃ n, v = .int k n ∧ k.min ≤ n ∧ n ≤ k.max := by
  simp only [Cell.okWide, ht] at h
  cases v <;> simp_all [Cell.ok, IntKind.has]
theorem cell_bool (ht : P.underlying t = some .bool) (h : Cell.okWide P w r base t v) : ∃ b, v = .bool b := by
  simp only [Cell.okWide, ht] at h
  cases v <;> simp_all [Cell.ok]
theorem cell_slice {e : TypeId} (ht : P.underlying t = some (.slice e)) (h : Cell.okWide P w r base t v) : ∃ a n c, v = .slice a n c ∧ (n : Int) ≤ 9223372036854775807 := by
  simp only [Cell.okWide, ht] at h
  have hmax : IntKind.i64.max = 9223372036854775807 := by decide
  cases v with
  | slice a n c =>
    refine ⟨a, n, c, rfl, ?_⟩
    cases a with
    | none =>
      cases n with
      | zero => omega
      | succ n => simp [Cell.ok, ht] at h
    | some a =>
      simp only [Cell.ok, ht] at h
      rw [hmax] at h
      omega
  | _ => simp_all [Cell.ok]
end
theorem in_i64 {n : Int} (h : IntKind.i64.min ≤ n ∧ n ≤ IntKind.i64.max) : (-9223372036854775808) ≤ n ∧ n ≤ 9223372036854775807 := by
  rw [show IntKind.i64.min = (-9223372036854775808) by decide, show IntKind.i64.max = 9223372036854775807 by decide] at h
  exact h
theorem in_u32 {n : Int} (h : IntKind.u32.min ≤ n ∧ n ≤ IntKind.u32.max) : 0 ≤ n ∧ n ≤ 4294967295 := by
  rw [show IntKind.u32.min = 0 by decide, show IntKind.u32.max = 4294967295 by decide] at h
  exact h
set_option maxRecDepth 100000 in
theorem open_int {W : World} {base : Nat} {v : Value} (h : Value.okWide Tryz.prog W .any base 3 v) : ∃ (a0 : Int), v = .int .i64 a0 ∧ ((-9223372036854775808) ≤ a0 ∧ a0 ≤ 9223372036854775807) := by
    simp only [Value.okWide, Tryz.underlying3] at h
    obtain ⟨a0, rfl, h0⟩ := cell_int Tryz.underlying3 h
    have h0 := in_i64 h0
    exact ⟨_, rfl, h0⟩
theorem cells_wharflaw18_Step : Tryz.prog.cellTypes Tryz.prog.depth 56 = some [3, 3, 3, 3, 3, 23, 24, 23, 3, 23, 3, 22, 3, 3, 3, 3, 4, 3, 23, 3, 23, 3, 22, 22, 3, 3, 3, 3, 24] := by kernel_rfl
set_option maxRecDepth 100000 in
theorem open_wharflaw18_Step {W : World} {base : Nat} {v : Value} (h : Value.okWide Tryz.prog W .any base 56 v) : ∃ (a0 : Int) (a1 : Int) (a2 : Int) (a3 : Int) (a4 : Int) (a5 : Int) (p6 : Option Addr) (n6 c6 : Nat) (a7 : Int) (a8 : Int) (a9 : Int) (a10 : Int) (a11 : Int) (a12 : Int) (a13 : Int) (a14 : Int) (a15 : Int) (b16 : Bool) (a17 : Int) (a18 : Int) (a19 : Int) (a20 : Int) (a21 : Int) (a22 : Int) (a23 : Int) (a24 : Int) (a25 : Int) (a26 : Int) (a27 : Int) (p28 : Option Addr) (n28 c28 : Nat), v = .agg #[.int .i64 a0, .int .i64 a1, .int .i64 a2, .int .i64 a3, .int .i64 a4, .int .u32 a5, .slice p6 n6 c6, .int .u32 a7, .int .i64 a8, .int .u32 a9, .int .i64 a10, .int .u32 a11, .int .i64 a12, .int .i64 a13, .int .i64 a14, .int .i64 a15, .bool b16, .int .i64 a17, .int .u32 a18, .int .i64 a19, .int .u32 a20, .int .i64 a21, .int .u32 a22, .int .u32 a23, .int .i64 a24, .int .i64 a25, .int .i64 a26, .int .i64 a27, .slice p28 n28 c28] ∧ ((-9223372036854775808) ≤ a0 ∧ a0 ≤ 9223372036854775807) ∧ ((-9223372036854775808) ≤ a1 ∧ a1 ≤ 9223372036854775807) ∧ ((-9223372036854775808) ≤ a2 ∧ a2 ≤ 9223372036854775807) ∧ ((-9223372036854775808) ≤ a3 ∧ a3 ≤ 9223372036854775807) ∧ ((-9223372036854775808) ≤ a4 ∧ a4 ≤ 9223372036854775807) ∧ (0 ≤ a5 ∧ a5 ≤ 4294967295) ∧ (n6 : Int) ≤ 9223372036854775807 ∧ (0 ≤ a7 ∧ a7 ≤ 4294967295) ∧ ((-9223372036854775808) ≤ a8 ∧ a8 ≤ 9223372036854775807) ∧ (0 ≤ a9 ∧ a9 ≤ 4294967295) ∧ ((-9223372036854775808) ≤ a10 ∧ a10 ≤ 9223372036854775807) ∧ (0 ≤ a11 ∧ a11 ≤ 4294967295) ∧ ((-9223372036854775808) ≤ a12 ∧ a12 ≤ 9223372036854775807) ∧ ((-9223372036854775808) ≤ a13 ∧ a13 ≤ 9223372036854775807) ∧ ((-9223372036854775808) ≤ a14 ∧ a14 ≤ 9223372036854775807) ∧ ((-9223372036854775808) ≤ a15 ∧ a15 ≤ 9223372036854775807) ∧ ((-9223372036854775808) ≤ a17 ∧ a17 ≤ 9223372036854775807) ∧ (0 ≤ a18 ∧ a18 ≤ 4294967295) ∧ ((-9223372036854775808) ≤ a19 ∧ a19 ≤ 9223372036854775807) ∧ (0 ≤ a20 ∧ a20 ≤ 4294967295) ∧ ((-9223372036854775808) ≤ a21 ∧ a21 ≤ 9223372036854775807) ∧ (0 ≤ a22 ∧ a22 ≤ 4294967295) ∧ (0 ≤ a23 ∧ a23 ≤ 4294967295) ∧ ((-9223372036854775808) ≤ a24 ∧ a24 ≤ 9223372036854775807) ∧ ((-9223372036854775808) ≤ a25 ∧ a25 ≤ 9223372036854775807) ∧ ((-9223372036854775808) ≤ a26 ∧ a26 ≤ 9223372036854775807) ∧ ((-9223372036854775808) ≤ a27 ∧ a27 ≤ 9223372036854775807) ∧ (n28 : Int) ≤ 9223372036854775807 := by
  simp only [Value.okWide, Tryz.underlying56] at h
  obtain ⟨cs, rfl, hsz, ts, hts, _, hc⟩ := h
  rw [cells_wharflaw18_Step] at hts
  cases hts
  have hsz : cs.size = 29 := by rw [hsz]; kernel_rfl
  obtain ⟨l⟩ := cs
  match l, hsz with
  | [x0, x1, x2, x3, x4, x5, x6, x7, x8, x9, x10, x11, x12, x13, x14, x15, x16, x17, x18, x19, x20, x21, x22, x23, x24, x25, x26, x27, x28], _ =>
    have g : ∀ i v u, [x0, x1, x2, x3, x4, x5, x6, x7, x8, x9, x10, x11, x12, x13, x14, x15, x16, x17, x18, x19, x20, x21, x22, x23, x24, x25, x26, x27, x28][i]? = some v → ([3, 3, 3, 3, 3, 23, 24, 23, 3, 23, 3, 22, 3, 3, 3, 3, 4, 3, 23, 3, 23, 3, 22, 22, 3, 3, 3, 3, 24] : List TypeId)[i % 29]? = some u → Cell.okWide Tryz.prog W .any base u v := by
      intro i v u hv hu
      obtain ⟨u', h1, h2⟩ := hc i v (by show ([x0, x1, x2, x3, x4, x5, x6, x7, x8, x9, x10, x11, x12, x13, x14, x15, x16, x17, x18, x19, x20, x21, x22, x23, x24, x25, x26, x27, x28] : List Value).toArray[i]? = some v; rw [List.getElem?_toArray]; exact hv)
      have h1 : ([3, 3, 3, 3, 3, 23, 24, 23, 3, 23, 3, 22, 3, 3, 3, 3, 4, 3, 23, 3, 23, 3, 22, 22, 3, 3, 3, 3, 24] : List TypeId)[i % 29]? = some u' := h1
      rw [hu] at h1
      cases h1
      exact h2
    obtain ⟨a0, rfl, h0⟩ := cell_int Tryz.underlying3 (g 0 x0 3 rfl rfl)
    have h0 := in_i64 h0
    obtain ⟨a1, rfl, h1⟩ := cell_int Tryz.underlying3 (g 1 x1 3 rfl rfl)
    have h1 := in_i64 h1
    obtain ⟨a2, rfl, h2⟩ := cell_int Tryz.underlying3 (g 2 x2 3 rfl rfl)
    have h2 := in_i64 h2
    obtain ⟨a3, rfl, h3⟩ := cell_int Tryz.underlying3 (g 3 x3 3 rfl rfl)
    have h3 := in_i64 h3
    obtain ⟨a4, rfl, h4⟩ := cell_int Tryz.underlying3 (g 4 x4 3 rfl rfl)
    have h4 := in_i64 h4
    obtain ⟨a5, rfl, h5⟩ := cell_int Tryz.underlying23 (g 5 x5 23 rfl rfl)
    have h5 := in_u32 h5
    obtain ⟨p6, n6, c6, rfl, h6⟩ := cell_slice Tryz.underlying24 (g 6 x6 24 rfl rfl)
    obtain ⟨a7, rfl, h7⟩ := cell_int Tryz.underlying23 (g 7 x7 23 rfl rfl)
    have h7 := in_u32 h7
    obtain ⟨a8, rfl, h8⟩ := cell_int Tryz.underlying3 (g 8 x8 3 rfl rfl)
    have h8 := in_i64 h8
    obtain ⟨a9, rfl, h9⟩ := cell_int Tryz.underlying23 (g 9 x9 23 rfl rfl)
    have h9 := in_u32 h9
    obtain ⟨a10, rfl, h10⟩ := cell_int Tryz.underlying3 (g 10 x10 3 rfl rfl)
    have h10 := in_i64 h10
    obtain ⟨a11, rfl, h11⟩ := cell_int Tryz.underlying22 (g 11 x11 22 rfl rfl)
    have h11 := in_u32 h11
    obtain ⟨a12, rfl, h12⟩ := cell_int Tryz.underlying3 (g 12 x12 3 rfl rfl)
    have h12 := in_i64 h12
    obtain ⟨a13, rfl, h13⟩ := cell_int Tryz.underlying3 (g 13 x13 3 rfl rfl)
    have h13 := in_i64 h13
    obtain ⟨a14, rfl, h14⟩ := cell_int Tryz.underlying3 (g 14 x14 3 rfl rfl)
    have h14 := in_i64 h14
    obtain ⟨a15, rfl, h15⟩ := cell_int Tryz.underlying3 (g 15 x15 3 rfl rfl)
    have h15 := in_i64 h15
    obtain ⟨b16, rfl⟩ := cell_bool Tryz.underlying4 (g 16 x16 4 rfl rfl)
    obtain ⟨a17, rfl, h17⟩ := cell_int Tryz.underlying3 (g 17 x17 3 rfl rfl)
    have h17 := in_i64 h17
    obtain ⟨a18, rfl, h18⟩ := cell_int Tryz.underlying23 (g 18 x18 23 rfl rfl)
    have h18 := in_u32 h18
    obtain ⟨a19, rfl, h19⟩ := cell_int Tryz.underlying3 (g 19 x19 3 rfl rfl)
    have h19 := in_i64 h19
    obtain ⟨a20, rfl, h20⟩ := cell_int Tryz.underlying23 (g 20 x20 23 rfl rfl)
    have h20 := in_u32 h20
    obtain ⟨a21, rfl, h21⟩ := cell_int Tryz.underlying3 (g 21 x21 3 rfl rfl)
    have h21 := in_i64 h21
    obtain ⟨a22, rfl, h22⟩ := cell_int Tryz.underlying22 (g 22 x22 22 rfl rfl)
    have h22 := in_u32 h22
    obtain ⟨a23, rfl, h23⟩ := cell_int Tryz.underlying22 (g 23 x23 22 rfl rfl)
    have h23 := in_u32 h23
    obtain ⟨a24, rfl, h24⟩ := cell_int Tryz.underlying3 (g 24 x24 3 rfl rfl)
    have h24 := in_i64 h24
    obtain ⟨a25, rfl, h25⟩ := cell_int Tryz.underlying3 (g 25 x25 3 rfl rfl)
    have h25 := in_i64 h25
    obtain ⟨a26, rfl, h26⟩ := cell_int Tryz.underlying3 (g 26 x26 3 rfl rfl)
    have h26 := in_i64 h26
    obtain ⟨a27, rfl, h27⟩ := cell_int Tryz.underlying3 (g 27 x27 3 rfl rfl)
    have h27 := in_i64 h27
    obtain ⟨p28, n28, c28, rfl, h28⟩ := cell_slice Tryz.underlying24 (g 28 x28 24 rfl rfl)
    exact ⟨_, _, _, _, _, _, _, _, _, _, _, _, _, _, _, _, _, _, _, _, _, _, _, _, _, _, _, _, _, _, _, _, _, rfl, h0, h1, h2, h3, h4, h5, h6, h7, h8, h9, h10, h11, h12, h13, h14, h15, h17, h18, h19, h20, h21, h22, h23, h24, h25, h26, h27, h28⟩

theorem walk (a0 : Int) (h0 : ((-9223372036854775808) ≤ a0 ∧ a0 ≤ 9223372036854775807)) (a1 : Int) (h1 : ((-9223372036854775808) ≤ a1 ∧ a1 ≤ 9223372036854775807)) (a2 : Int) (h2 : ((-9223372036854775808) ≤ a2 ∧ a2 ≤ 9223372036854775807)) (a3 : Int) (h3 : ((-9223372036854775808) ≤ a3 ∧ a3 ≤ 9223372036854775807)) (a4 : Int) (h4 : ((-9223372036854775808) ≤ a4 ∧ a4 ≤ 9223372036854775807)) (a5 : Int) (h5 : (0 ≤ a5 ∧ a5 ≤ 4294967295)) (p6 : Option Addr) (n6 c6 : Nat) (h6 : (n6 : Int) ≤ 9223372036854775807) (a7 : Int) (h7 : (0 ≤ a7 ∧ a7 ≤ 4294967295)) (a8 : Int) (h8 : ((-9223372036854775808) ≤ a8 ∧ a8 ≤ 9223372036854775807)) (a9 : Int) (h9 : (0 ≤ a9 ∧ a9 ≤ 4294967295)) (a10 : Int) (h10 : ((-9223372036854775808) ≤ a10 ∧ a10 ≤ 9223372036854775807)) (a11 : Int) (h11 : (0 ≤ a11 ∧ a11 ≤ 4294967295)) (a12 : Int) (h12 : ((-9223372036854775808) ≤ a12 ∧ a12 ≤ 9223372036854775807)) (a13 : Int) (h13 : ((-9223372036854775808) ≤ a13 ∧ a13 ≤ 9223372036854775807)) (a14 : Int) (h14 : ((-9223372036854775808) ≤ a14 ∧ a14 ≤ 9223372036854775807)) (a15 : Int) (h15 : ((-9223372036854775808) ≤ a15 ∧ a15 ≤ 9223372036854775807)) (b16 : Bool) (a17 : Int) (h17 : ((-9223372036854775808) ≤ a17 ∧ a17 ≤ 9223372036854775807)) (a18 : Int) (h18 : (0 ≤ a18 ∧ a18 ≤ 4294967295)) (a19 : Int) (h19 : ((-9223372036854775808) ≤ a19 ∧ a19 ≤ 9223372036854775807)) (a20 : Int) (h20 : (0 ≤ a20 ∧ a20 ≤ 4294967295)) (a21 : Int) (h21 : ((-9223372036854775808) ≤ a21 ∧ a21 ≤ 9223372036854775807)) (a22 : Int) (h22 : (0 ≤ a22 ∧ a22 ≤ 4294967295)) (a23 : Int) (h23 : (0 ≤ a23 ∧ a23 ≤ 4294967295)) (a24 : Int) (h24 : ((-9223372036854775808) ≤ a24 ∧ a24 ≤ 9223372036854775807)) (a25 : Int) (h25 : ((-9223372036854775808) ≤ a25 ∧ a25 ≤ 9223372036854775807)) (a26 : Int) (h26 : ((-9223372036854775808) ≤ a26 ∧ a26 ≤ 9223372036854775807)) (a27 : Int) (h27 : ((-9223372036854775808) ≤ a27 ∧ a27 ≤ 9223372036854775807)) (p28 : Option Addr) (n28 c28 : Nat) (h28 : (n28 : Int) ≤ 9223372036854775807) (a29 : Int) (h29 : ((-9223372036854775808) ≤ a29 ∧ a29 ≤ 9223372036854775807)) (w : World) : Calls Tryz.prog 6 #[.agg #[.int .i64 a0, .int .i64 a1, .int .i64 a2, .int .i64 a3, .int .i64 a4, .int .u32 a5, .slice p6 n6 c6, .int .u32 a7, .int .i64 a8, .int .u32 a9, .int .i64 a10, .int .u32 a11, .int .i64 a12, .int .i64 a13, .int .i64 a14, .int .i64 a15, .bool b16, .int .i64 a17, .int .u32 a18, .int .i64 a19, .int .u32 a20, .int .i64 a21, .int .u32 a22, .int .u32 a23, .int .i64 a24, .int .i64 a25, .int .i64 a26, .int .i64 a27, .slice p28 n28 c28], .int .i64 a29] w fun e w' => e = .returned (.bool true) ∧ Kp [] w w' := by
  exact pA_any a0 h0 a1 h1 a2 h2 a3 h3 a4 h4 a5 h5 p6 n6 c6 h6 a7 h7 a8 h8 a9 h9 a10 h10 a11 h11 a12 h12 a13 h13 a14 h14 a15 h15 b16 a17 h17 a18 h18 a19 h19 a20 h20 a21 h21 a22 h22 a23 h23 a24 h24 a25 h25 a26 h26 a27 h27 p28 n28 c28 h28 a29 h29 w

set_option maxRecDepth 100000 in
theorem lifted (os : Os) (started : os.Started) (H : Type) (enc : TypeId × Value → H) :
    ReturnsInHanded {} Tryz.checked os 6 .any (Rows.hubOfNothingSpec.pre6 enc Tryz.prog Tryz.f6 Rows.hubOfNothingRow.domain false) (Rows.hubOfNothingSpec.post enc Tryz.prog Tryz.f6 false true false false) := by
  refine returnsInHanded_of_change (C := Tryz.checked) own started (by kernel_rfl) Tryz.func6
    (ChangeSpec.witness6 (enc := enc) (C := Tryz.checked) false ⟨#[], #[.agg #[.int .i64 0, .int .i64 0, .int .i64 0, .int .i64 0, .int .i64 0, .int .u32 0, .slice none 0 0, .int .u32 0, .int .i64 0, .int .u32 0, .int .i64 0, .int .u32 0, .int .i64 0, .int .i64 0, .int .i64 0, .int .i64 0, .bool false, .int .i64 0, .int .u32 0, .int .i64 0, .int .u32 0, .int .i64 0, .int .u32 0, .int .u32 0, .int .i64 0, .int .i64 0, .int .i64 0, .int .i64 0, .slice none 0 0], .int .i64 0], []⟩ 8 (by kernel_rfl) (by kernel_rfl) (by kernel_rfl) (by kernel_rfl)) ?_
  intro W base args ds gs before hval0 hW hcnd _
  have hval : ∀ (j : Nat) t v, Tryz.f6.params[j]? = some t → args[j]? = some v → Value.okWide Tryz.prog W .any base t v := hval0
  have hW' := hW
  obtain ⟨p, q, hA0, hV, rfl, hfz, hnd⟩ := hW
  have hA : DataW.TrodAll enc Tryz.prog W 0 (fun _ => true) true Tryz.f6.params.toList args.toList ds p := hA0
  rw [Tryz.params6] at hA hval
  obtain ⟨v0, vs0, d0, ds0, p_0, q0, hargs, rfl, rfl, k0, r0⟩ := trodAll_cons hA
  obtain ⟨v1, vs1, d1, ds1, p_1, q1, rfl, rfl, rfl, k1, r1⟩ := trodAll_cons r0
  obtain ⟨rfl, rfl, rfl⟩ := trodAll_nil r1
  obtain rfl : args = #[v0, v1] := by cases args; simp_all
  obtain ⟨rfl, rfl⟩ := trodVars_none hV
  have lt0 : ∀ x ∈ p_0, x.block < W.heap.size := by obtain ⟨m, hm⟩ := k0; exact DataW.trod_lt m _ _ _ hm
  have lt1 : ∀ x ∈ p_1, x.block < W.heap.size := by obtain ⟨m, hm⟩ := k1; exact DataW.trod_lt m _ _ _ hm
  obtain ⟨a0, a1, a2, a3, a4, a5, p6, n6, c6, a7, a8, a9, a10, a11, a12, a13, a14, a15, b16, a17, a18, a19, a20, a21, a22, a23, a24, a25, a26, a27, p28, n28, c28, rfl, hh0, hh1, hh2, hh3, hh4, hh5, hh6, hh7, hh8, hh9, hh10, hh11, hh12, hh13, hh14, hh15, hh17, hh18, hh19, hh20, hh21, hh22, hh23, hh24, hh25, hh26, hh27, hh28⟩ := open_wharflaw18_Step (hval 0 56 v0 rfl rfl)
  obtain ⟨a29, rfl, hh29⟩ := open_int (hval 1 3 v1 rfl rfl)
  clear hA0 hval0
  refine (walk a0 hh0 a1 hh1 a2 hh2 a3 hh3 a4 hh4 a5 hh5 p6 n6 c6 hh6 a7 hh7 a8 hh8 a9 hh9 a10 hh10 a11 hh11 a12 hh12 a13 hh13 a14 hh14 a15 hh15 b16 a17 hh17 a18 hh18 a19 hh19 a20 hh20 a21 hh21 a22 hh22 a23 hh23 a24 hh24 a25 hh25 a26 hh26 a27 hh27 p28 n28 c28 hh28 a29 hh29 W).mono fun e W' ⟨he, hg⟩ => ?_
  subst he
  have bel := hg.below0
  exact ⟨_, rfl, _, _, _, [], _, [], hW', trodAll_mk1 (shut_bool Tryz.underlying4 _), (trodAll_cons_mk (Below.trod laid_out (by kernel_rfl) (of_decide_eq_true (by kernel_rfl)) k0 bel lt0) (trodAll_cons_mk (Below.trod laid_out (by kernel_rfl) (of_decide_eq_true (by kernel_rfl)) k1 bel lt1) trodAll_mk0)), rfl, bel.frame _, fun h => by cases h⟩

theorem over : Rows.hubOfNothingRow.holds Tryz.pinned (OpenSpec.ofChange Rows.hubOfNothingSpec) :=
  OpenClaim.holds_of_wide 6 Tryz.f6 rfl rfl rfl rfl rfl rfl rfl ⟨rfl, rfl, rfl, rfl, rfl⟩ rfl rfl rfl rfl rfl j_func Tryz.func6 joined
    (of_decide_eq_true (by kernel_rfl)) (by unfold Func.isWrapper; first | (rw [if_pos (by decide +kernel)]; kernel_rfl) | (rw [if_neg (by decide +kernel)]; exact ⟨rfl, rfl⟩))
    (fun os started H enc _ => lifted os started H enc)

theorem proved : Rows.HubOfNothingSaid := over
end Go.Proofs.YtfiefdkgneilkaaGreat.hubOfNothing

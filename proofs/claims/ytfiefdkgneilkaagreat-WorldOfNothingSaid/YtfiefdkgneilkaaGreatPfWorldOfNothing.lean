/-
  It is proved that a nil World does nothing (wharflaw24.WorldOfNothing). No condition.
-/
import Derived.Test.YtfiefdkgneilkaaGreatRows
import Derived.WalkKit
import Derived.ProofKit
import Derived.OpenShut
import Derived.Below
import Derived.Test.YtfiefdkgneilkaaGreatPaWorldOfNothingA
import Derived.Test.YtfiefdkgneilkaaGreatJfWorldOfNothing
namespace Go.Proofs.YtfiefdkgneilkaaGreat.worldOfNothing
open Go.ChangeShapes Go.WideShapes Go.ChangeAt Go.RowKit
open Go
set_option linter.unusedVariables false
set_option linter.unusedSimpArgs false

theorem own : ownKnob Tryz.prog.godebug = none := by kernel_rfl
section
variable {P : Program} {w : World} {r : Reach} {base : Nat} {t : TypeId} {v : Value}
theorem cell_int {k : IntKind} (ht : P.underlying t = some (.int k)) (h : Cell.okWide P w r base t v) : ∃ n, v = .int k n ∧ k.min ≤ n ∧ n ≤ k.max := by
  simp only [Cell.okWide, ht] at h
  cases v <;> simp_all [Cell.ok, IntKind.has]
theorem cell_bool (ht : P.underlying t = some .bool) (h : Cell.okWide P w r base t v) : ∃ b, v = .bool b := by
  simp only [Cell.okWide, ht] at h
  cases v <;> simp_all [Cell.ok]
theorem cell_slice {e : TypeId} (ht : P.underlying t = some (.slice e)) (h : Cell.okWide P w r base t v) : ∃ a n c, v = .slice a n c ∧ (n : Int) ≤ 9223372036854775807 := by
  simp only [Cell.okWide, ht] at h
  have hmax : IntKind.i64.max = 9223372036854775807 := by decide
  cases v with
  | slice a n c =>
    refine ⟨a, n, c, rfl, ?_⟩
    cases a with
    | none =>
      cases n with
      | zero => omega
      | succ n => simp [Cell.ok, ht] at h
    | some a =>
      simp only [Cell.ok, ht] at h
      rw [hmax] at h
      omega
  | _ => simp_all [Cell.ok]
end
theorem in_i64 {n : Int} (h : IntKind.i64.min ≤ n ∧ n ≤ IntKind.i64.max) : (-9223372036854775808) ≤ n ∧ n ≤ 9223372036854775807 := by
  rw [show IntKind.i64.min = (-9223372036854775808) by decide, show IntKind.i64.max = 9223372036854775807 by decide] at h
  exact h
theorem in_u32 {n : Int} (h : IntKind.u32.min ≤ n ∧ n ≤ IntKind.u32.max) : 0 ≤ n ∧ n ≤ 4294967295 := by
  rw [show IntKind.u32.min = 0 by decide, show IntKind.u32.max = 4294967295 by decide] at h
  exact h
theorem in_u8 {n : Int} (h : IntKind.u8.min ≤ n ∧ n ≤ IntKind.u8.max) : 0 ≤ n ∧ n ≤ 255 := by
  rw [show IntKind.u8.min = 0 by decide, show IntKind.u8.max = 255 by decide] at h
  exact h
theorem cells_api_Step : Tryz.prog.cellTypes Tryz.prog.depth 135 = some [3, 3, 3, 3, 3, 23, 3, 3, 24, 3, 3, 3, 3, 5] := by kernel_rfl
set_option maxRecDepth 100000 in
theorem open_api_Step {W : World} {base : Nat} {v : Value} (h : Value.okWide Tryz.prog W .any base 135 v) : ∃ (a0 : Int) (a1 : Int) (a2 : Int) (a3 : Int) (a4 : Int) (a5 : Int) (a6 : Int) (a7 : Int) (p8 : Option Addr) (n8 c8 : Nat) (a9 : Int) (a10 : Int) (a11 : Int) (a12 : Int) (a13 : Int), v = .agg #[.int .i64 a0, .int .i64 a1, .int .i64 a2, .int .i64 a3, .int .i64 a4, .int .u32 a5, .int .i64 a6, .int .i64 a7, .slice p8 n8 c8, .int .i64 a9, .int .i64 a10, .int .i64 a11, .int .i64 a12, .int .u8 a13] ∧ ((-9223372036854775808) ≤ a0 ∧ a0 ≤ 9223372036854775807) ∧ ((-9223372036854775808) ≤ a1 ∧ a1 ≤ 9223372036854775807) ∧ ((-9223372036854775808) ≤ a2 ∧ a2 ≤ 9223372036854775807) ∧ ((-9223372036854775808) ≤ a3 ∧ a3 ≤ 9223372036854775807) ∧ ((-9223372036854775808) ≤ a4 ∧ a4 ≤ 9223372036854775807) ∧ (0 ≤ a5 ∧ a5 ≤ 4294967295) ∧ ((-9223372036854775808) ≤ a6 ∧ a6 ≤ 9223372036854775807) ∧ ((-9223372036854775808) ≤ a7 ∧ a7 ≤ 9223372036854775807) ∧ (n8 : Int) ≤ 9223372036854775807 ∧ ((-9223372036854775808) ≤ a9 ∧ a9 ≤ 9223372036854775807) ∧ ((-9223372036854775808) ≤ a10 ∧ a10 ≤ 9223372036854775807) ∧ ((-9223372036854775808) ≤ a11 ∧ a11 ≤ 9223372036854775807) ∧ ((-9223372036854775808) ≤ a12 ∧ a12 ≤ 9223372036854775807) ∧ (0 ≤ a13 ∧ a13 ≤ 255) := by
  simp only [Value.okWide, Tryz.underlying135] at h
  obtain ⟨cs, rfl, hsz, ts, hts, _, hc⟩ := h
  rw [cells_api_Step] at hts
  cases hts
  have hsz : cs.size = 14 := by rw [hsz]; kernel_rfl
  obtain ⟨l⟩ := cs
  match l, hsz with
  | [x0, x1, x2, x3, x4, x5, x6, x7, x8, x9, x10, x11, x12, x13], _ =>
    have g : ∀ i v u, [x0, x1, x2, x3, x4, x5, x6, x7, x8, x9, x10, x11, x12, x13][i]? = some v → ([3, 3, 3, 3, 3, 23, 3, 3, 24, 3, 3, 3, 3, 5] : List TypeId)[i % 14]? = some u → Cell.okWide Tryz.prog W .any base u v := by
      intro i v u hv hu
      obtain ⟨u', h1, h2⟩ := hc i v (by show ([x0, x1, x2, x3, x4, x5, x6, x7, x8, x9, x10, x11, x12, x13] : List Value).toArray[i]? = some v; rw [List.getElem?_toArray]; exact hv)
      have h1 : ([3, 3, 3, 3, 3, 23, 3, 3, 24, 3, 3, 3, 3, 5] : List TypeId)[i % 14]? = some u' := h1
      rw [hu] at h1
      cases h1
      exact h2
    obtain ⟨a0, rfl, h0⟩ := cell_int Tryz.underlying3 (g 0 x0 3 rfl rfl)
    have h0 := in_i64 h0
    obtain ⟨a1, rfl, h1⟩ := cell_int Tryz.underlying3 (g 1 x1 3 rfl rfl)
    have h1 := in_i64 h1
    obtain ⟨a2, rfl, h2⟩ := cell_int Tryz.underlying3 (g 2 x2 3 rfl rfl)
    have h2 := in_i64 h2
    obtain ⟨a3, rfl, h3⟩ := cell_int Tryz.underlying3 (g 3 x3 3 rfl rfl)
    have h3 := in_i64 h3
    obtain ⟨a4, rfl, h4⟩ := cell_int Tryz.underlying3 (g 4 x4 3 rfl rfl)
    have h4 := in_i64 h4
    obtain ⟨a5, rfl, h5⟩ := cell_int Tryz.underlying23 (g 5 x5 23 rfl rfl)
    have h5 := in_u32 h5
    obtain ⟨a6, rfl, h6⟩ := cell_int Tryz.underlying3 (g 6 x6 3 rfl rfl)
    have h6 := in_i64 h6
    obtain ⟨a7, rfl, h7⟩ := cell_int Tryz.underlying3 (g 7 x7 3 rfl rfl)
    have h7 := in_i64 h7
    obtain ⟨p8, n8, c8, rfl, h8⟩ := cell_slice Tryz.underlying24 (g 8 x8 24 rfl rfl)
    obtain ⟨a9, rfl, h9⟩ := cell_int Tryz.underlying3 (g 9 x9 3 rfl rfl)
    have h9 := in_i64 h9
    obtain ⟨a10, rfl, h10⟩ := cell_int Tryz.underlying3 (g 10 x10 3 rfl rfl)
    have h10 := in_i64 h10
    obtain ⟨a11, rfl, h11⟩ := cell_int Tryz.underlying3 (g 11 x11 3 rfl rfl)
    have h11 := in_i64 h11
    obtain ⟨a12, rfl, h12⟩ := cell_int Tryz.underlying3 (g 12 x12 3 rfl rfl)
    have h12 := in_i64 h12
    obtain ⟨a13, rfl, h13⟩ := cell_int Tryz.underlying5 (g 13 x13 5 rfl rfl)
    have h13 := in_u8 h13
    exact ⟨_, _, _, _, _, _, _, _, _, _, _, _, _, _, _, _, rfl, h0, h1, h2, h3, h4, h5, h6, h7, h8, h9, h10, h11, h12, h13⟩
set_option maxRecDepth 100000 in
theorem open_int {W : World} {base : Nat} {v : Value} (h : Value.okWide Tryz.prog W .any base 3 v) : ∃ (a0 : Int), v = .int .i64 a0 ∧ ((-9223372036854775808) ≤ a0 ∧ a0 ≤ 9223372036854775807) := by
    simp only [Value.okWide, Tryz.underlying3] at h
    obtain ⟨a0, rfl, h0⟩ := cell_int Tryz.underlying3 h
    have h0 := in_i64 h0
    exact ⟨_, rfl, h0⟩

theorem walk (a0 : Int) (h0 : ((-9223372036854775808) ≤ a0 ∧ a0 ≤ 9223372036854775807)) (a1 : Int) (h1 : ((-9223372036854775808) ≤ a1 ∧ a1 ≤ 9223372036854775807)) (a2 : Int) (h2 : ((-9223372036854775808) ≤ a2 ∧ a2 ≤ 9223372036854775807)) (a3 : Int) (h3 : ((-9223372036854775808) ≤ a3 ∧ a3 ≤ 9223372036854775807)) (a4 : Int) (h4 : ((-9223372036854775808) ≤ a4 ∧ a4 ≤ 9223372036854775807)) (a5 : Int) (h5 : (0 ≤ a5 ∧ a5 ≤ 4294967295)) (a6 : Int) (h6 : ((-9223372036854775808) ≤ a6 ∧ a6 ≤ 9223372036854775807)) (a7 : Int) (h7 : ((-9223372036854775808) ≤ a7 ∧ a7 ≤ 9223372036854775807)) (p8 : Option Addr) (n8 c8 : Nat) (h8 : (n8 : Int) ≤ 9223372036854775807) (a9 : Int) (h9 : ((-9223372036854775808) ≤ a9 ∧ a9 ≤ 9223372036854775807)) (a10 : Int) (h10 : ((-9223372036854775808) ≤ a10 ∧ a10 ≤ 9223372036854775807)) (a11 : Int) (h11 : ((-9223372036854775808) ≤ a11 ∧ a11 ≤ 9223372036854775807)) (a12 : Int) (h12 : ((-9223372036854775808) ≤ a12 ∧ a12 ≤ 9223372036854775807)) (a13 : Int) (h13 : (0 ≤ a13 ∧ a13 ≤ 255)) (a14 : Int) (h14 : ((-9223372036854775808) ≤ a14 ∧ a14 ≤ 9223372036854775807)) (w : World) : Calls Tryz.prog 19 #[.agg #[.int .i64 a0, .int .i64 a1, .int .i64 a2, .int .i64 a3, .int .i64 a4, .int .u32 a5, .int .i64 a6, .int .i64 a7, .slice p8 n8 c8, .int .i64 a9, .int .i64 a10, .int .i64 a11, .int .i64 a12, .int .u8 a13], .int .i64 a14] w fun e w' => e = .returned (.bool true) ∧ Kp [] w w' := by
  exact pA_any a0 h0 a1 h1 a2 h2 a3 h3 a4 h4 a5 h5 a6 h6 a7 h7 p8 n8 c8 h8 a9 h9 a10 h10 a11 h11 a12 h12 a13 h13 a14 h14 w

set_option maxRecDepth 100000 in
theorem lifted (os : Os) (started : os.Started) (H : Type) (enc : TypeId × Value → H) :
    ReturnsInHanded {} Tryz.checked os 19 .any (Rows.worldOfNothingSpec.pre6 enc Tryz.prog Tryz.f19 Rows.worldOfNothingRow.domain false) (Rows.worldOfNothingSpec.post enc Tryz.prog Tryz.f19 false true false false) := by
  refine returnsInHanded_of_change (C := Tryz.checked) own started (by kernel_rfl) Tryz.func19
    (ChangeSpec.witness6 (enc := enc) (C := Tryz.checked) false ⟨#[], #[.agg #[.int .i64 0, .int .i64 0, .int .i64 0, .int .i64 0, .int .i64 0, .int .u32 0, .int .i64 0, .int .i64 0, .slice none 0 0, .int .i64 0, .int .i64 0, .int .i64 0, .int .i64 0, .int .u8 0], .int .i64 0], []⟩ 8 (by kernel_rfl) (by kernel_rfl) (by kernel_rfl) (by kernel_rfl)) ?_
  intro W base args ds gs before hval0 hW hcnd _
  have hval : ∀ (j : Nat) t v, Tryz.f19.params[j]? = some t → args[j]? = some v → Value.okWide Tryz.prog W .any base t v := hval0
  have hW' := hW
  obtain ⟨p, q, hA0, hV, rfl, hfz, hnd⟩ := hW
  have hA : DataW.TrodAll enc Tryz.prog W 0 (fun _ => true) true Tryz.f19.params.toList args.toList ds p := hA0
  rw [Tryz.params19] at hA hval
  obtain ⟨v0, vs0, d0, ds0, p_0, q0, hargs, rfl, rfl, k0, r0⟩ := trodAll_cons hA
  obtain ⟨v1, vs1, d1, ds1, p_1, q1, rfl, rfl, rfl, k1, r1⟩ := trodAll_cons r0
  obtain ⟨rfl, rfl, rfl⟩ := trodAll_nil r1
  obtain rfl : args = #[v0, v1] := by cases args; simp_all
  obtain ⟨rfl, rfl⟩ := trodVars_none hV
  have lt0 : ∀ x ∈ p_0, x.block < W.heap.size := by obtain ⟨m, hm⟩ := k0; exact DataW.trod_lt m _ _ _ hm
  have lt1 : ∀ x ∈ p_1, x.block < W.heap.size := by obtain ⟨m, hm⟩ := k1; exact DataW.trod_lt m _ _ _ hm
  obtain ⟨a0, a1, a2, a3, a4, a5, a6, a7, p8, n8, c8, a9, a10, a11, a12, a13, rfl, hh0, hh1, hh2, hh3, hh4, hh5, hh6, hh7, hh8, hh9, hh10, hh11, hh12, hh13⟩ := open_api_Step (hval 0 135 v0 rfl rfl)
  obtain ⟨a14, rfl, hh14⟩ := open_int (hval 1 3 v1 rfl rfl)
  clear hA0 hval0
  refine (walk a0 hh0 a1 hh1 a2 hh2 a3 hh3 a4 hh4 a5 hh5 a6 hh6 a7 hh7 p8 n8 c8 hh8 a9 hh9 a10 hh10 a11 hh11 a12 hh12 a13 hh13 a14 hh14 W).mono fun e W' ⟨he, hg⟩ => ?_
  subst he
  have bel := hg.below0
  exact ⟨_, rfl, _, _, _, [], _, [], hW', trodAll_mk1 (shut_bool Tryz.underlying4 _), (trodAll_cons_mk (Below.trod laid_out (by kernel_rfl) (of_decide_eq_true (by kernel_rfl)) k0 bel lt0) (trodAll_cons_mk (Below.trod laid_out (by kernel_rfl) (of_decide_eq_true (by kernel_rfl)) k1 bel lt1) trodAll_mk0)), rfl, bel.frame _, fun h => by cases h⟩

theorem over : Rows.worldOfNothingRow.holds Tryz.pinned (OpenSpec.ofChange Rows.worldOfNothingSpec) :=
  OpenClaim.holds_of_wide 19 Tryz.f19 rfl rfl rfl rfl rfl rfl rfl ⟨rfl, rfl, rfl, rfl, rfl⟩ rfl rfl rfl rfl rfl j_func Tryz.func19 joined
    (of_decide_eq_true (by kernel_rfl)) (by unfold Func.isWrapper; first | (rw [if_pos (by decide +kernel)]; kernel_rfl) | (rw [if_neg (by decide +kernel)]; exact ⟨rfl, rfl⟩))
    (fun os started H enc _ => lifted os started H enc)

theorem proved : Rows.WorldOfNothingSaid := over
end Go.Proofs.YtfiefdkgneilkaaGreat.worldOfNothing

/-
  Several connections to one listener are accepted in their order, and each is a pair of its own (wharflaw24.WorldMany). No condition.
-/
import Derived.Test.YtfomfboennjfoaaGreatRows
import Derived.WalkKit
import Derived.ProofKit
import Derived.OpenShut
import Derived.Below
import Derived.Test.YtfomfboennjfoaaGreatPaWorldManyQ0
import Derived.Test.YtfomfboennjfoaaGreatPaWorldManyQ1
import Derived.Test.YtfomfboennjfoaaGreatPaWorldManyQ2
import Derived.Test.YtfomfboennjfoaaGreatPaWorldManyQ3
import Derived.Test.YtfomfboennjfoaaGreatPaWorldManyQ4
import Derived.Test.YtfomfboennjfoaaGreatPaWorldManyQ5
import Derived.Test.YtfomfboennjfoaaGreatJfWorldMany
namespace Go.Proofs.YtfomfboennjfoaaGreat.worldMany
open Go.ChangeShapes Go.WideShapes Go.ChangeAt Go.RowKit
open Go
set_option linter.unusedVariables false
set_option linter.unusedSimpArgs false

theorem own : ownKnob Tryz.prog.godebug = none := by kernel_rfl
section
variable {P : Program} {w : World} {r : Reach} {base : Nat} {t : TypeId} {v : Value}
theorem cell_int {k : IntKind} (ht : P.underlying t = some (.int k)) (h : Cell.okWide P w r base t v) : ∃ n, v = .int k n ∧ k.min ≤ n ∧ n ≤ k.max := by
  simp only [Cell.okWide, ht] at h
  cases v <;> simp_all [Cell.ok, IntKind.has]
theorem cell_bool (ht : P.underlying t = some .bool) (h : Cell.okWide P w r base t v) : ∃ b, v = .bool b := by
  simp only [Cell.okWide, ht] at h
  cases v <;> simp_all [Cell.ok]
theorem cell_slice {e : TypeId} (ht : P.underlying t = some (.slice e)) (h : Cell.okWide P w r base t v) : ∃ a n c, v = .slice a n c := by
  simp only [Cell.okWide, ht] at h
  cases v <;> simp_all [Cell.ok]
end
theorem in_i64 {n : Int} (h : IntKind.i64.min ≤ n ∧ n ≤ IntKind.i64.max) : (-9223372036854775808) ≤ n ∧ n ≤ 9223372036854775807 := by
  rw [show IntKind.i64.min = (-9223372036854775808) by decide, show IntKind.i64.max = 9223372036854775807 by decide] at h
  exact h
set_option maxRecDepth 100000 in
theorem open_int {W : World} {base : Nat} {v : Value} (h : Value.okWide Tryz.prog W .any base 3 v) : ∃ (a0 : Int), v = .int .i64 a0 ∧ ((-9223372036854775808) ≤ a0 ∧ a0 ≤ 9223372036854775807) := by
    simp only [Value.okWide, Tryz.underlying3] at h
    obtain ⟨a0, rfl, h0⟩ := cell_int Tryz.underlying3 h
    have h0 := in_i64 h0
    exact ⟨_, rfl, h0⟩

theorem walk (w : World) (a0 : Int) (h0 : ((-9223372036854775808) ≤ a0 ∧ a0 ≤ 9223372036854775807)) (a1 : Int) (h1 : ((-9223372036854775808) ≤ a1 ∧ a1 ≤ 9223372036854775807)) : Calls Tryz.prog 7 #[.int .i64 a0, .int .i64 a1] w fun e w' => e = .returned (.bool true) ∧ Kp [] w w' := by
  have hc0 : ((-9223372036854775808) ≤ a0 ∧ a0 ≤ 0) ∨ (1 ≤ a0 ∧ a0 ≤ 1) ∨ (2 ≤ a0 ∧ a0 ≤ 2) ∨ (3 ≤ a0 ∧ a0 ≤ 3) ∨ (4 ≤ a0 ∧ a0 ≤ 4) ∨ (5 ≤ a0 ∧ a0 ≤ 5) ∨ (6 ≤ a0 ∧ a0 ≤ 6) ∨ (7 ≤ a0 ∧ a0 ≤ 7) ∨ (8 ≤ a0 ∧ a0 ≤ 8) ∨ (9 ≤ a0 ∧ a0 ≤ 9223372036854775807) := by omega
  clear h0
  rcases hc0 with h0 | h0 | h0 | h0 | h0 | h0 | h0 | h0 | h0 | h0
  · exact pNL_any w a0 (by omega) a1 (by omega)
  · have hc1 : ((-9223372036854775808) ≤ a1 ∧ a1 ≤ 0) ∨ (1 ≤ a1 ∧ a1 ≤ 65535) ∨ (65536 ≤ a1 ∧ a1 ≤ 9223372036854775807) := by omega
    clear h1
    rcases hc1 with h1 | h1 | h1
    · exact pPL_any w a0 (by omega) a1 (by omega)
    · exact pM1_any w a0 (by omega) a1 (by omega)
    · exact pPH_any w a0 (by omega) a1 (by omega)
  · have hc1 : ((-9223372036854775808) ≤ a1 ∧ a1 ≤ 0) ∨ (1 ≤ a1 ∧ a1 ≤ 65535) ∨ (65536 ≤ a1 ∧ a1 ≤ 9223372036854775807) := by omega
    clear h1
    rcases hc1 with h1 | h1 | h1
    · exact pPL_any w a0 (by omega) a1 (by omega)
    · exact pM2_any w a0 (by omega) a1 (by omega)
    · exact pPH_any w a0 (by omega) a1 (by omega)
  · have hc1 : ((-9223372036854775808) ≤ a1 ∧ a1 ≤ 0) ∨ (1 ≤ a1 ∧ a1 ≤ 65535) ∨ (65536 ≤ a1 ∧ a1 ≤ 9223372036854775807) := by omega
    clear h1
    rcases hc1 with h1 | h1 | h1
    · exact pPL_any w a0 (by omega) a1 (by omega)
    · exact pM3_any w a0 (by omega) a1 (by omega)
    · exact pPH_any w a0 (by omega) a1 (by omega)
  · have hc1 : ((-9223372036854775808) ≤ a1 ∧ a1 ≤ 0) ∨ (1 ≤ a1 ∧ a1 ≤ 65535) ∨ (65536 ≤ a1 ∧ a1 ≤ 9223372036854775807) := by omega
    clear h1
    rcases hc1 with h1 | h1 | h1
    · exact pPL_any w a0 (by omega) a1 (by omega)
    · exact pM4_any w a0 (by omega) a1 (by omega)
    · exact pPH_any w a0 (by omega) a1 (by omega)
  · have hc1 : ((-9223372036854775808) ≤ a1 ∧ a1 ≤ 0) ∨ (1 ≤ a1 ∧ a1 ≤ 65535) ∨ (65536 ≤ a1 ∧ a1 ≤ 9223372036854775807) := by omega
    clear h1
    rcases hc1 with h1 | h1 | h1
    · exact pPL_any w a0 (by omega) a1 (by omega)
    · exact pM5_any w a0 (by omega) a1 (by omega)
    · exact pPH_any w a0 (by omega) a1 (by omega)
  · have hc1 : ((-9223372036854775808) ≤ a1 ∧ a1 ≤ 0) ∨ (1 ≤ a1 ∧ a1 ≤ 65535) ∨ (65536 ≤ a1 ∧ a1 ≤ 9223372036854775807) := by omega
    clear h1
    rcases hc1 with h1 | h1 | h1
    · exact pPL_any w a0 (by omega) a1 (by omega)
    · exact pM6_any w a0 (by omega) a1 (by omega)
    · exact pPH_any w a0 (by omega) a1 (by omega)
  · have hc1 : ((-9223372036854775808) ≤ a1 ∧ a1 ≤ 0) ∨ (1 ≤ a1 ∧ a1 ≤ 65535) ∨ (65536 ≤ a1 ∧ a1 ≤ 9223372036854775807) := by omega
    clear h1
    rcases hc1 with h1 | h1 | h1
    · exact pPL_any w a0 (by omega) a1 (by omega)
    · exact pM7_any w a0 (by omega) a1 (by omega)
    · exact pPH_any w a0 (by omega) a1 (by omega)
  · have hc1 : ((-9223372036854775808) ≤ a1 ∧ a1 ≤ 0) ∨ (1 ≤ a1 ∧ a1 ≤ 65535) ∨ (65536 ≤ a1 ∧ a1 ≤ 9223372036854775807) := by omega
    clear h1
    rcases hc1 with h1 | h1 | h1
    · exact pPL_any w a0 (by omega) a1 (by omega)
    · exact pM8_any w a0 (by omega) a1 (by omega)
    · exact pPH_any w a0 (by omega) a1 (by omega)
  · exact pNH_any w a0 (by omega) a1 (by omega)

set_option maxRecDepth 100000 in
theorem lifted (os : Os) (started : os.Started) (H : Type) (enc : TypeId × Value → H) :
    ReturnsInHanded {} Tryz.checked os 7 .any (Rows.worldManySpec.pre6 enc Tryz.prog Tryz.f7 Rows.worldManyRow.domain false) (Rows.worldManySpec.post enc Tryz.prog Tryz.f7 false true false false) := by
  refine returnsInHanded_of_change (C := Tryz.checked) own started (by kernel_rfl) Tryz.func7
    (ChangeSpec.witness6 (enc := enc) (C := Tryz.checked) false ⟨#[], #[.int .i64 0, .int .i64 0], []⟩ 8 (by kernel_rfl) (by kernel_rfl) (by kernel_rfl) (by kernel_rfl)) ?_
  intro W base args ds gs before hval0 hW hcnd _
  have hval : ∀ (j : Nat) t v, Tryz.f7.params[j]? = some t → args[j]? = some v → Value.okWide Tryz.prog W .any base t v := hval0
  have hW' := hW
  obtain ⟨p, q, hA0, hV, rfl, hfz, hnd⟩ := hW
  have hA : DataW.TrodAll enc Tryz.prog W 0 (fun _ => true) true Tryz.f7.params.toList args.toList ds p := hA0
  rw [Tryz.params7] at hA hval
  obtain ⟨v0, vs0, d0, ds0, p_0, q0, hargs, rfl, rfl, k0, r0⟩ := trodAll_cons hA
  obtain ⟨v1, vs1, d1, ds1, p_1, q1, rfl, rfl, rfl, k1, r1⟩ := trodAll_cons r0
  obtain ⟨rfl, rfl, rfl⟩ := trodAll_nil r1
  obtain rfl : args = #[v0, v1] := by cases args; simp_all
  obtain ⟨rfl, rfl⟩ := trodVars_none hV
  have lt0 : ∀ x ∈ p_0, x.block < W.heap.size := by obtain ⟨m, hm⟩ := k0; exact DataW.trod_lt m _ _ _ hm
  have lt1 : ∀ x ∈ p_1, x.block < W.heap.size := by obtain ⟨m, hm⟩ := k1; exact DataW.trod_lt m _ _ _ hm
  obtain ⟨a0, rfl, hh0⟩ := open_int (hval 0 3 v0 rfl rfl)
  obtain ⟨a1, rfl, hh1⟩ := open_int (hval 1 3 v1 rfl rfl)

  clear hA0 hval0
  refine (walk W a0 hh0 a1 hh1).mono fun e W' ⟨he, hg⟩ => ?_
  subst he
  have bel := hg.below0
  exact ⟨_, rfl, _, _, _, [], _, [], hW', trodAll_mk1 (shut_bool Tryz.underlying4 _), (trodAll_cons_mk (Below.trod laid_out (by kernel_rfl) (of_decide_eq_true (by kernel_rfl)) k0 bel lt0) (trodAll_cons_mk (Below.trod laid_out (by kernel_rfl) (of_decide_eq_true (by kernel_rfl)) k1 bel lt1) trodAll_mk0)), rfl, bel.frame _, fun h => by cases h⟩

theorem over : Rows.worldManyRow.holds Tryz.pinned (OpenSpec.ofChange Rows.worldManySpec) :=
  OpenClaim.holds_of_wide 7 Tryz.f7 rfl rfl rfl rfl rfl rfl rfl ⟨rfl, rfl, rfl, rfl, rfl⟩ rfl rfl rfl rfl rfl j_func Tryz.func7 joined
    (of_decide_eq_true (by kernel_rfl)) (by unfold Func.isWrapper; first | (rw [if_pos (by decide +kernel)]; kernel_rfl) | (rw [if_neg (by decide +kernel)]; exact ⟨rfl, rfl⟩))
    (fun os started H enc _ => lifted os started H enc)

theorem proved : Rows.WorldManySaid := over
end Go.Proofs.YtfomfboennjfoaaGreat.worldMany

/-
  It is proved that a Close of one end ends what waits at the other: a Recv there is answered with the end (wharflaw24.WorldCloses). No condition.
-/
import Derived.Test.YtggoagemdhflfaaGreatRows
import Derived.WalkKit
import Derived.ProofKit
import Derived.OpenShut
import Derived.Below
import Derived.Test.YtggoagemdhflfaaGreatPaWorldClosesQ0
import Derived.Test.YtggoagemdhflfaaGreatJfWorldCloses
namespace Go.Proofs.YtggoagemdhflfaaGreat.worldCloses
open Go.ChangeShapes Go.WideShapes Go.ChangeAt Go.RowKit
open Go
set_option linter.unusedVariables false
set_option linter.unusedSimpArgs false

theorem own : ownKnob Tryz.prog.godebug = none := by kernel_rfl
section
variable {P : Program} {w : World} {r : Reach} {base : Nat} {t : TypeId} {v : Value}
theorem cell_int {k : IntKind} (ht : P.underlying t = some (.int k)) (h : Cell.okWide P w r base t v) : ∃ n, v = .int k n ∧ k.min ≤ n ∧ n ≤ k.max := by
  simp only [Cell.okWide, ht] at h
  cases v <;> simp_all [Cell.ok, IntKind.has]
theorem cell_bool (ht : P.underlying t = some .bool) (h : Cell.okWide P w r base t v) : ∃ b, v = .bool b := by
  simp only [Cell.okWide, ht] at h
  cases v <;> simp_all [Cell.ok]
theorem cell_slice {e : TypeId} (ht : P.underlying t = some (.slice e)) (h : Cell.okWide P w r base t v) : ∃ a n c, v = .slice a n c ∧ (n : Int) ≤ 9223372036854775807 := by
  simp only [Cell.okWide, ht] at h
  have hmax : IntKind.i64.max = 9223372036854775807 := by decide
  cases v with
  | slice a n c =>
    refine ⟨a, n, c, rfl, ?_⟩
    cases a with
    | none =>
      cases n with
      | zero => omega
      | succ n => simp [Cell.ok, ht] at h
    | some a =>
      simp only [Cell.ok, ht] at h
      rw [hmax] at h
      omega
  | _ => simp_all [Cell.ok]
end
theorem in_i64 {n : Int} (h : IntKind.i64.min ≤ n ∧ n ≤ IntKind.i64.max) : (-9223372036854775808) ≤ n ∧ n ≤ 9223372036854775807 := by
  rw [show IntKind.i64.min = (-9223372036854775808) by decide, show IntKind.i64.max = 9223372036854775807 by decide] at h
  exact h
set_option maxRecDepth 100000 in
theorem open_int {W : World} {base : Nat} {v : Value} (h : Value.okWide Tryz.prog W .any base 3 v) : ∃ (a0 : Int), v = .int .i64 a0 ∧ ((-9223372036854775808) ≤ a0 ∧ a0 ≤ 9223372036854775807) := by
    simp only [Value.okWide, Tryz.underlying3] at h
    obtain ⟨a0, rfl, h0⟩ := cell_int Tryz.underlying3 h
    have h0 := in_i64 h0
    exact ⟨_, rfl, h0⟩

theorem walk (a0 : Int) (h0 : ((-9223372036854775808) ≤ a0 ∧ a0 ≤ 9223372036854775807)) (w : World) : Calls Tryz.prog 11 #[.int .i64 a0] w fun e w' => e = .returned (.bool true) ∧ Kp [] w w' := by
  have hc0 : (1 ≤ a0 ∧ a0 ≤ 65535) ∨ ((-9223372036854775808) ≤ a0 ∧ a0 ≤ 0) ∨ (65536 ≤ a0 ∧ a0 ≤ 9223372036854775807) := by omega
  clear h0
  rcases hc0 with h0 | h0 | h0
  · exact pA_any a0 h0 w
  · exact pL_any a0 h0 w
  · exact pH_any a0 h0 w

set_option maxRecDepth 100000 in
theorem lifted (os : Os) (started : os.Started) (H : Type) (enc : TypeId × Value → H) :
    ReturnsInHanded {} Tryz.checked os 11 .any (Rows.worldClosesSpec.pre6 enc Tryz.prog Tryz.f11 Rows.worldClosesRow.domain false) (Rows.worldClosesSpec.post enc Tryz.prog Tryz.f11 false true false false) := by
  refine returnsInHanded_of_change (C := Tryz.checked) own started (by kernel_rfl) Tryz.func11
    (ChangeSpec.witness6 (enc := enc) (C := Tryz.checked) false ⟨#[], #[.int .i64 0], []⟩ 8 (by kernel_rfl) (by kernel_rfl) (by kernel_rfl) (by kernel_rfl)) ?_
  intro W base args ds gs before hval0 hW hcnd _
  have hval : ∀ (j : Nat) t v, Tryz.f11.params[j]? = some t → args[j]? = some v → Value.okWide Tryz.prog W .any base t v := hval0
  have hW' := hW
  obtain ⟨p, q, hA0, hV, rfl, hfz, hnd⟩ := hW
  have hA : DataW.TrodAll enc Tryz.prog W 0 (fun _ => true) true Tryz.f11.params.toList args.toList ds p := hA0
  rw [Tryz.params11] at hA hval
  obtain ⟨v0, vs0, d0, ds0, p_0, q0, hargs, rfl, rfl, k0, r0⟩ := trodAll_cons hA
  obtain ⟨rfl, rfl, rfl⟩ := trodAll_nil r0
  obtain rfl : args = #[v0] := by cases args; simp_all
  obtain ⟨rfl, rfl⟩ := trodVars_none hV
  have lt0 : ∀ x ∈ p_0, x.block < W.heap.size := by obtain ⟨m, hm⟩ := k0; exact DataW.trod_lt m _ _ _ hm
  obtain ⟨a0, rfl, hh0⟩ := open_int (hval 0 3 v0 rfl rfl)
  clear hA0 hval0
  refine (walk a0 hh0 W).mono fun e W' ⟨he, hg⟩ => ?_
  subst he
  have bel := hg.below0
  exact ⟨_, rfl, _, _, _, [], _, [], hW', trodAll_mk1 (shut_bool Tryz.underlying4 _), (trodAll_cons_mk (Below.trod laid_out (by kernel_rfl) (of_decide_eq_true (by kernel_rfl)) k0 bel lt0) trodAll_mk0), rfl, bel.frame _, fun h => by cases h⟩

theorem over : Rows.worldClosesRow.holds Tryz.pinned (OpenSpec.ofChange Rows.worldClosesSpec) :=
  OpenClaim.holds_of_wide 11 Tryz.f11 rfl rfl rfl rfl rfl rfl rfl ⟨rfl, rfl, rfl, rfl, rfl⟩ rfl rfl rfl rfl rfl j_func Tryz.func11 joined
    (of_decide_eq_true (by kernel_rfl)) (by unfold Func.isWrapper; first | (rw [if_pos (by decide +kernel)]; kernel_rfl) | (rw [if_neg (by decide +kernel)]; exact ⟨rfl, rfl⟩))
    (fun os started H enc _ => lifted os started H enc)

theorem proved : Rows.WorldClosesSaid := over
end Go.Proofs.YtggoagemdhflfaaGreat.worldCloses

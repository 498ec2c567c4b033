/-
  It is proved that who sends to a port that nobody has is told so if it is connected there, and is not if not (wharflaw19.HostRefused). No condition.
-/
import Derived.Test.YtfiefdkgneilkaaGreatRows
import Derived.WalkKit
import Derived.ProofKit
import Derived.OpenShut
import Derived.Below
import Derived.Test.YtfiefdkgneilkaaGreatPaHostRefusedT
import Derived.Test.YtfiefdkgneilkaaGreatPaHostRefusedF
import Derived.Test.YtfiefdkgneilkaaGreatPaHostRefusedL
import Derived.Test.YtfiefdkgneilkaaGreatPaHostRefusedH
import Derived.Test.YtfiefdkgneilkaaGreatJfHostRefused
namespace Go.Proofs.YtfiefdkgneilkaaGreat.hostRefused
open Go.ChangeShapes Go.WideShapes Go.ChangeAt Go.RowKit
set_option linter.unusedVariables false      -- a walk need not use every 'w<i>' (that an integer argument fits its kind)

theorem own : ownKnob Tryz.prog.godebug = none := by kernel_rfl

theorem walk (a0 : Int) (a1 : Bool) (w0 : (Lit.int .i64 a0).wf = true) (w : World) :
    Calls Tryz.prog 10 #[.int .i64 a0, .bool a1] w fun e w' => e = .returned (.bool true) ∧ Kp [] w w' := by
  have h0 : w0 = w0 := rfl
  have hw0 : (-9223372036854775808) ≤ a0 ∧ a0 ≤ 9223372036854775807 := by
    have h1 := wf_int w0
    have h2 : IntKind.i64.min = (-9223372036854775808) := by decide
    have h3 : IntKind.i64.max = 9223372036854775807 := by decide
    rw [h2, h3] at h1
    exact h1
  have hc0 : (1 ≤ a0 ∧ a0 ≤ 65535) ∨ ((-9223372036854775808) ≤ a0 ∧ a0 ≤ 0) ∨ (65536 ≤ a0 ∧ a0 ≤ 9223372036854775807) := by omega
  rcases hc0 with hr0 | hr0 | hr0
  · cases a1 with
    | true =>
      exact pT_any a0 hr0 w
    | false =>
      exact pF_any a0 hr0 w
  · exact pL_any a0 hr0 a1 w
  · exact pH_any a0 hr0 a1 w

set_option maxRecDepth 100000 in
theorem lifted (os : Os) (started : os.Started) (H : Type) (enc : TypeId × Value → H) :
    ReturnsInHanded {} Tryz.checked os 10 .any (Rows.hostRefusedSpec.pre6 enc Tryz.prog Tryz.f10 Rows.hostRefusedRow.domain false) (Rows.hostRefusedSpec.post enc Tryz.prog Tryz.f10 false true false false) := by
  refine returnsInHanded_of_change (C := Tryz.checked) own started (by kernel_rfl) Tryz.func10
    (ChangeSpec.witness6 (enc := enc) (C := Tryz.checked) false ⟨#[], #[.int .i64 0, .bool false], []⟩ 8 (by kernel_rfl) (by kernel_rfl) (by kernel_rfl) (by kernel_rfl)) ?_
  intro W base args ds gs before hval0 hW hcnd _
  have hval : ∀ (j : Nat) t v, Tryz.f10.params[j]? = some t → args[j]? = some v → Value.okWide Tryz.prog W .any base t v := hval0
  have hW' := hW
  obtain ⟨p, q, hA0, hV, rfl, hfz, hnd⟩ := hW
  have hA : DataW.TrodAll enc Tryz.prog W 0 (fun _ => true) true Tryz.f10.params.toList args.toList ds p := hA0
  rw [Tryz.params10] at hA hval
  obtain ⟨v0, vs0, d0, ds0, p0, q0, hargs, rfl, rfl, h0, r0⟩ := trodAll_cons hA
  obtain ⟨v1, vs1, d1, ds1, p1, q1, rfl, rfl, rfl, h1, r1⟩ := trodAll_cons r0
  obtain ⟨rfl, rfl, rfl⟩ := trodAll_nil r1
  obtain rfl : args = #[v0, v1] := by cases args; simp_all
  obtain ⟨rfl, rfl⟩ := trodVars_none hV
  obtain ⟨a0, rfl, rfl, rfl, w0⟩ := open_int Tryz.underlying3 (hval 0 3 v0 rfl rfl) h0
  obtain ⟨a1, rfl, rfl, rfl⟩ := open_bool Tryz.underlying4 (hval 1 4 v1 rfl rfl) h1
  clear hA0 hval0
  simp only [List.append_nil] at hW'
  refine (walk a0 a1 w0 W).mono fun e W' ⟨he, hg⟩ => ?_
  subst he
  exact ⟨_, rfl, _, _, _, [], _, [], hW', (trodAll_cons_mk (shut_bool Tryz.underlying4 _) trodAll_mk0), (trodAll_cons_mk (shut_int Tryz.underlying3 w0) (trodAll_cons_mk (shut_bool Tryz.underlying4 _) trodAll_mk0)), rfl, hg.below0.frame _, fun h => by cases h⟩

theorem over : Rows.hostRefusedRow.holds Tryz.pinned (OpenSpec.ofChange Rows.hostRefusedSpec) :=
  OpenClaim.holds_of_wide 10 Tryz.f10 rfl rfl rfl rfl rfl rfl rfl ⟨rfl, rfl, rfl, rfl, rfl⟩ rfl rfl rfl rfl rfl j_func Tryz.func10 joined
    (of_decide_eq_true (by kernel_rfl)) (by unfold Func.isWrapper; first | (rw [if_pos (by decide +kernel)]; kernel_rfl) | (rw [if_neg (by decide +kernel)]; exact ⟨rfl, rfl⟩))
    (fun os started H enc _ => lifted os started H enc)

theorem proved : Rows.HostRefusedSaid :=
  over
end Go.Proofs.YtfiefdkgneilkaaGreat.hostRefused


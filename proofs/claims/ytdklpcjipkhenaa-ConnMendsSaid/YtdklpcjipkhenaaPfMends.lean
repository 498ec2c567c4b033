/-
  It is proved that the third acknowledgement that is the same has the first lost segment sent again, at once (wharflaw17.ConnMends). No condition.
-/
import Derived.Test.YtdklpcjipkhenaaRows
import Derived.WalkKit
import Derived.ProofKit
import Derived.OpenShut
import Derived.Below
import Derived.Test.YtdklpcjipkhenaaPaMendsL
import Derived.Test.YtdklpcjipkhenaaPaMends0
import Derived.Test.YtdklpcjipkhenaaPaMends1
import Derived.Test.YtdklpcjipkhenaaPaMends2
import Derived.Test.YtdklpcjipkhenaaPaMends3
import Derived.Test.YtdklpcjipkhenaaPaMends4
import Derived.Test.YtdklpcjipkhenaaPaMendsH
namespace Go.Proofs.Ytdklpcjipkhenaa.connMends
open Go.ChangeShapes Go.WideShapes Go.ChangeAt Go.RowKit
set_option linter.unusedVariables false      -- a walk need not use every 'w<i>' (that an integer argument fits its kind)

theorem own : ownKnob Try.prog.godebug = none := by kernel_rfl

theorem walk (a0 : Int) (w0 : (Lit.int .i64 a0).wf = true) (w : World) :
    Calls Try.prog 12 #[.int .i64 a0] w fun e w' => e = .returned (.bool true) ∧ Kp [] w w' := by
  have h0 : w0 = w0 := rfl
  have hw : -9223372036854775808 ≤ a0 ∧ a0 ≤ 9223372036854775807 := by
    have h1 := wf_int w0
    have h2 : IntKind.i64.min = -9223372036854775808 := by decide
    have h3 : IntKind.i64.max = 9223372036854775807 := by decide
    rw [h2, h3] at h1
    exact h1
  have hc : (-9223372036854775808 ≤ a0 ∧ a0 ≤ 2) ∨ (3 ≤ a0 ∧ a0 ≤ 4) ∨ (5 ≤ a0 ∧ a0 ≤ 7) ∨ (8 ≤ a0 ∧ a0 ≤ 11) ∨ (12 ≤ a0 ∧ a0 ≤ 17) ∨ (18 ≤ a0 ∧ a0 ≤ 20) ∨ (21 ≤ a0 ∧ a0 ≤ 9223372036854775807) := by omega
  rcases hc with h | h | h | h | h | h | h
  · exact pL_any a0 h w
  · exact p0_any a0 h w
  · exact p1_any a0 h w
  · exact p2_any a0 h w
  · exact p3_any a0 h w
  · exact p4_any a0 h w
  · exact pH_any a0 h w

set_option maxRecDepth 100000 in
theorem lifted (os : Os) (started : os.Started) (H : Type) (enc : TypeId × Value → H) :
    ReturnsInHanded {} Try.checked os 12 .any (Rows.connMendsSpec.pre6 enc Try.prog Try.f12 Rows.connMendsRow.domain false) (Rows.connMendsSpec.post enc Try.prog Try.f12 false true false false) := by
  refine returnsInHanded_of_change (C := Try.checked) own started (by kernel_rfl) Try.func12
    (ChangeSpec.witness6 (enc := enc) (C := Try.checked) false ⟨#[], #[.int .i64 0], []⟩ 8 (by kernel_rfl) (by kernel_rfl) (by kernel_rfl) (by kernel_rfl)) ?_
  intro W base args ds gs before hval0 hW hcnd _
  have hval : ∀ (j : Nat) t v, Try.f12.params[j]? = some t → args[j]? = some v → Value.okWide Try.prog W .any base t v := hval0
  have hW' := hW
  obtain ⟨p, q, hA0, hV, rfl, hfz, hnd⟩ := hW
  have hA : DataW.TrodAll enc Try.prog W 0 (fun _ => true) true Try.f12.params.toList args.toList ds p := hA0
  rw [Try.params12] at hA hval
  obtain ⟨v0, vs0, d0, ds0, p0, q0, hargs, rfl, rfl, h0, r0⟩ := trodAll_cons hA
  obtain ⟨rfl, rfl, rfl⟩ := trodAll_nil r0
  obtain rfl : args = #[v0] := by cases args; simp_all
  obtain ⟨rfl, rfl⟩ := trodVars_none hV
  obtain ⟨a0, rfl, rfl, rfl, w0⟩ := open_int Try.underlying3 (hval 0 3 v0 rfl rfl) h0
  clear hA0 hval0
  simp only [List.append_nil] at hW'
  refine (walk a0 w0 W).mono fun e W' ⟨he, hg⟩ => ?_
  subst he
  exact ⟨_, rfl, _, _, _, [], _, [], hW', (trodAll_cons_mk (shut_bool Try.underlying4 _) trodAll_mk0), (trodAll_cons_mk (shut_int Try.underlying3 w0) trodAll_mk0), rfl, hg.below0.frame _, fun h => by cases h⟩

theorem over : Rows.connMendsRow.holds Try.pinned (OpenSpec.ofChange Rows.connMendsSpec) :=
  OpenClaim.holds_of_wide 12 Try.f12 rfl rfl rfl rfl rfl rfl rfl ⟨rfl, rfl, rfl, rfl, rfl⟩ rfl rfl rfl rfl rfl (by kernel_rfl) Try.func12 (by kernel_rfl)
    (of_decide_eq_true (by kernel_rfl)) (by unfold Func.isWrapper; first | (rw [if_pos (by decide +kernel)]; kernel_rfl) | (rw [if_neg (by decide +kernel)]; exact ⟨rfl, rfl⟩))
    (fun os started H enc _ => lifted os started H enc)

theorem proved : Rows.ConnMendsSaid :=
  over
end Go.Proofs.Ytdklpcjipkhenaa.connMends


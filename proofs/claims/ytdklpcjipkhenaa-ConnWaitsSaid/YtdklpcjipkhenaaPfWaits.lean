/-
  It is proved that small bytes wait for the acknowledgement of those ahead of them, unless they are not to wait (wharflaw17.ConnWaits). No condition.
-/
import Derived.Test.YtdklpcjipkhenaaRows
import Derived.WalkKit
import Derived.ProofKit
import Derived.OpenShut
import Derived.Below
import Derived.Test.YtdklpcjipkhenaaPaWaitsS
import Derived.Test.YtdklpcjipkhenaaPaWaitsL
import Derived.Test.YtdklpcjipkhenaaPaWaitsH
import Derived.Test.YtdklpcjipkhenaaPaWaits0
import Derived.Test.YtdklpcjipkhenaaPaWaits1
import Derived.Test.YtdklpcjipkhenaaPaWaits2
import Derived.Test.YtdklpcjipkhenaaPaWaits3
import Derived.Test.YtdklpcjipkhenaaPaWaits4
import Derived.Test.YtdklpcjipkhenaaPaWaits5
import Derived.Test.YtdklpcjipkhenaaPaWaits6
namespace Go.Proofs.Ytdklpcjipkhenaa.connWaits
open Go.ChangeShapes Go.WideShapes Go.ChangeAt Go.RowKit
set_option linter.unusedVariables false      -- a walk need not use every 'w<i>' (that an integer argument fits its kind)

theorem own : ownKnob Try.prog.godebug = none := by kernel_rfl

theorem walk (a0 : Int) (a1 : Bool) (w0 : (Lit.int .i64 a0).wf = true) (w : World) :
    Calls Try.prog 11 #[.int .i64 a0, .bool a1] w fun e w' => e = .returned (.bool true) ∧ Kp [] w w' := by
  have h0 : w0 = w0 := rfl
  cases a1 with
  | true => exact pS_any (fun i => if i = 0 then a0 else 1) rfl rfl w
  | false =>
    have hc : a0 < 2 ∨ 50 < a0 ∨ (1 < a0 ∧ a0 ≤ 8) ∨ (8 < a0 ∧ a0 ≤ 15) ∨ (15 < a0 ∧ a0 ≤ 22) ∨ (22 < a0 ∧ a0 ≤ 29) ∨ (29 < a0 ∧ a0 ≤ 36) ∨ (36 < a0 ∧ a0 ≤ 43) ∨ (43 < a0 ∧ a0 ≤ 50) := by omega
    rcases hc with h | h | h | h | h | h | h | h | h
    · exact pL_any (fun i => if i = 0 then a0 else 0) rfl (by exact h) rfl w
    · exact pH_any (fun i => if i = 0 then a0 else 0) rfl (by exact h) rfl w
    · exact p0_any (fun i => if i = 0 then a0 else 0) rfl (by exact h) rfl w
    · exact p1_any (fun i => if i = 0 then a0 else 0) rfl (by exact h) rfl w
    · exact p2_any (fun i => if i = 0 then a0 else 0) rfl (by exact h) rfl w
    · exact p3_any (fun i => if i = 0 then a0 else 0) rfl (by exact h) rfl w
    · exact p4_any (fun i => if i = 0 then a0 else 0) rfl (by exact h) rfl w
    · exact p5_any (fun i => if i = 0 then a0 else 0) rfl (by exact h) rfl w
    · exact p6_any (fun i => if i = 0 then a0 else 0) rfl (by exact h) rfl w

set_option maxRecDepth 100000 in
theorem lifted (os : Os) (started : os.Started) (H : Type) (enc : TypeId × Value → H) :
    ReturnsInHanded {} Try.checked os 11 .any (Rows.connWaitsSpec.pre6 enc Try.prog Try.f11 Rows.connWaitsRow.domain false) (Rows.connWaitsSpec.post enc Try.prog Try.f11 false true false false) := by
  refine returnsInHanded_of_change (C := Try.checked) own started (by kernel_rfl) Try.func11
    (ChangeSpec.witness6 (enc := enc) (C := Try.checked) false ⟨#[], #[.int .i64 0, .bool false], []⟩ 8 (by kernel_rfl) (by kernel_rfl) (by kernel_rfl) (by kernel_rfl)) ?_
  intro W base args ds gs before hval0 hW hcnd _
  have hval : ∀ (j : Nat) t v, Try.f11.params[j]? = some t → args[j]? = some v → Value.okWide Try.prog W .any base t v := hval0
  have hW' := hW
  obtain ⟨p, q, hA0, hV, rfl, hfz, hnd⟩ := hW
  have hA : DataW.TrodAll enc Try.prog W 0 (fun _ => true) true Try.f11.params.toList args.toList ds p := hA0
  rw [Try.params11] at hA hval
  obtain ⟨v0, vs0, d0, ds0, p0, q0, hargs, rfl, rfl, h0, r0⟩ := trodAll_cons hA
  obtain ⟨v1, vs1, d1, ds1, p1, q1, rfl, rfl, rfl, h1, r1⟩ := trodAll_cons r0
  obtain ⟨rfl, rfl, rfl⟩ := trodAll_nil r1
  obtain rfl : args = #[v0, v1] := by cases args; simp_all
  obtain ⟨rfl, rfl⟩ := trodVars_none hV
  obtain ⟨a0, rfl, rfl, rfl, w0⟩ := open_int Try.underlying3 (hval 0 3 v0 rfl rfl) h0
  obtain ⟨a1, rfl, rfl, rfl⟩ := open_bool Try.underlying4 (hval 1 4 v1 rfl rfl) h1
  clear hA0 hval0
  simp only [List.append_nil] at hW'
  refine (walk a0 a1 w0 W).mono fun e W' ⟨he, hg⟩ => ?_
  subst he
  exact ⟨_, rfl, _, _, _, [], _, [], hW', (trodAll_cons_mk (shut_bool Try.underlying4 _) trodAll_mk0), (trodAll_cons_mk (shut_int Try.underlying3 w0) (trodAll_cons_mk (shut_bool Try.underlying4 _) trodAll_mk0)), rfl, hg.below0.frame _, fun h => by cases h⟩

theorem over : Rows.connWaitsRow.holds Try.pinned (OpenSpec.ofChange Rows.connWaitsSpec) :=
  OpenClaim.holds_of_wide 11 Try.f11 rfl rfl rfl rfl rfl rfl rfl ⟨rfl, rfl, rfl, rfl, rfl⟩ rfl rfl rfl rfl rfl (by kernel_rfl) Try.func11 (by kernel_rfl)
    (of_decide_eq_true (by kernel_rfl)) (by unfold Func.isWrapper; first | (rw [if_pos (by decide +kernel)]; kernel_rfl) | (rw [if_neg (by decide +kernel)]; exact ⟨rfl, rfl⟩))
    (fun os started H enc _ => lifted os started H enc)

theorem proved : Rows.ConnWaitsSaid :=
  over
end Go.Proofs.Ytdklpcjipkhenaa.connWaits


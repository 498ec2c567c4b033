/-
  It is proved that two that shut at one time both end, by Closing (wharflaw17.ConnBoth). No condition.
-/
import Derived.Test.YtdklpcjipkhenaaRows
import Derived.WalkKit
import Derived.ProofKit
import Derived.OpenShut
import Derived.Below
import Derived.Test.YtdklpcjipkhenaaPaBoth
namespace Go.Proofs.Ytdklpcjipkhenaa.connBoth
open Go.ChangeShapes Go.WideShapes Go.ChangeAt Go.RowKit
open Go
set_option linter.unusedVariables false
set_option linter.unusedSimpArgs false

theorem own : ownKnob Try.prog.godebug = none := by kernel_rfl

theorem walk (a0 : Int) (w0 : (Lit.int .i64 a0).wf = true) (w : World) :
    Calls Try.prog 9 #[.int .i64 a0] w fun e w' => e = .returned (.bool true) ∧ Kp [] w w' := by
  have hw := wf_int w0
  have h1 : IntKind.i64.min = -9223372036854775808 := rfl
  have h2 : IntKind.i64.max = 9223372036854775807 := rfl
  rw [h1, h2] at hw
  clear h1 h2
  by_cases c0 : a0 < 1
  · refine run_true follows_mixed plans_ok sums1_ok path0 (fun _ => a0) (fun x hx => ?_) (xs := [.int .i64 a0]) rfl w
    simp only [pcs0, List.mem_cons, List.not_mem_nil, or_false] at hx
    rcases hx with rfl <;> simp only [SB.ev, SI.ev, cmpZ, binZ, wrap_u32', wrap_i64', wrap_i32', Int.ofNat_eq_natCast, decide_eq_true_eq, decide_eq_false_iff_not, beq_iff_eq, beq_eq_false_iff_ne, Bool.not_eq_true', ne_eq] <;> first | omega | exact decide_eq_true (by omega) | exact decide_eq_false (by omega)
  · by_cases c1 : a0 > 1099511626776
    · refine run_true follows_mixed plans_ok sums1_ok path2 (fun _ => a0) (fun x hx => ?_) (xs := [.int .i64 a0]) rfl w
      simp only [pcs2, List.mem_cons, List.not_mem_nil, or_false] at hx
      rcases hx with rfl | rfl <;> simp only [SB.ev, SI.ev, cmpZ, binZ, wrap_u32', wrap_i64', wrap_i32', Int.ofNat_eq_natCast, decide_eq_true_eq, decide_eq_false_iff_not, beq_iff_eq, beq_eq_false_iff_ne, Bool.not_eq_true', ne_eq] <;> first | omega | exact decide_eq_true (by omega) | exact decide_eq_false (by omega)
    · refine run_true follows_mixed plans_ok sums1_ok path1 (fun _ => a0) (fun x hx => ?_) (xs := [.int .i64 a0]) rfl w
      simp only [pcs1, List.mem_cons, List.not_mem_nil, or_false] at hx
      rcases hx with rfl | rfl | rfl | rfl | rfl | rfl | rfl | rfl | rfl <;> simp only [SB.ev, SI.ev, cmpZ, binZ, wrap_u32', wrap_i64', wrap_i32', Int.ofNat_eq_natCast, decide_eq_true_eq, decide_eq_false_iff_not, beq_iff_eq, beq_eq_false_iff_ne, Bool.not_eq_true', ne_eq] <;> first | omega | exact decide_eq_true (by omega) | exact decide_eq_false (by omega)

set_option maxRecDepth 100000 in
theorem lifted (os : Os) (started : os.Started) (H : Type) (enc : TypeId × Value → H) :
    ReturnsInHanded {} Try.checked os 9 .any (Rows.connBothSpec.pre6 enc Try.prog Try.f9 Rows.connBothRow.domain false) (Rows.connBothSpec.post enc Try.prog Try.f9 false true false false) := by
  refine returnsInHanded_of_change (C := Try.checked) own started (by kernel_rfl) Try.func9
    (ChangeSpec.witness6 (enc := enc) (C := Try.checked) false ⟨#[], #[.int .i64 0], []⟩ 8 (by kernel_rfl) (by kernel_rfl) (by kernel_rfl) (by kernel_rfl)) ?_
  intro W base args ds gs before hval0 hW hcnd _
  have hval : ∀ (j : Nat) t v, Try.f9.params[j]? = some t → args[j]? = some v → Value.okWide Try.prog W .any base t v := hval0
  have hW' := hW
  obtain ⟨p, q, hA0, hV, rfl, hfz, hnd⟩ := hW
  have hA : DataW.TrodAll enc Try.prog W 0 (fun _ => true) true Try.f9.params.toList args.toList ds p := hA0
  rw [Try.params9] at hA hval
  obtain ⟨v0, vs0, d0, ds0, p0, q0, hargs, rfl, rfl, h0, r0⟩ := trodAll_cons hA
  obtain ⟨rfl, rfl, rfl⟩ := trodAll_nil r0
  obtain rfl : args = #[v0] := by cases args; simp_all
  obtain ⟨rfl, rfl⟩ := trodVars_none hV
  obtain ⟨a0, rfl, rfl, rfl, w0⟩ := open_int Try.underlying3 (hval 0 3 v0 rfl rfl) h0
  clear hA0 hval0
  simp only [List.append_nil] at hW'
  refine (walk a0 w0 W).mono fun e W' ⟨he, hg⟩ => ?_
  subst he
  exact ⟨_, rfl, _, _, _, [], _, [], hW', (trodAll_cons_mk (shut_bool Try.underlying4 _) trodAll_mk0), (trodAll_cons_mk (shut_int Try.underlying3 w0) trodAll_mk0), rfl, hg.below0.frame _, fun h => by cases h⟩

theorem over : Rows.connBothRow.holds Try.pinned (OpenSpec.ofChange Rows.connBothSpec) :=
  OpenClaim.holds_of_wide 9 Try.f9 rfl rfl rfl rfl rfl rfl rfl ⟨rfl, rfl, rfl, rfl, rfl⟩ rfl rfl rfl rfl rfl (by kernel_rfl) Try.func9 (by kernel_rfl)
    (of_decide_eq_true (by kernel_rfl)) (by unfold Func.isWrapper; first | (rw [if_pos (by decide +kernel)]; kernel_rfl) | (rw [if_neg (by decide +kernel)]; exact ⟨rfl, rfl⟩))
    (fun os started H enc _ => lifted os started H enc)

theorem proved : Rows.ConnBothSaid :=
  over
end Go.Proofs.Ytdklpcjipkhenaa.connBoth


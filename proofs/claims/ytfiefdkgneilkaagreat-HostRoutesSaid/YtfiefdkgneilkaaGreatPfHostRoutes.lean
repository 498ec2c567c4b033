/-
  It is proved that what goes beyond the net goes by the gateway, and that without one there is no way (wharflaw19.HostRoutes). No condition.
-/
import Derived.Test.YtfiefdkgneilkaaGreatRows
import Derived.WalkKit
import Derived.ProofKit
import Derived.OpenShut
import Derived.Below
import Derived.Test.YtfiefdkgneilkaaGreatPaHostRoutesQ0
import Derived.Test.YtfiefdkgneilkaaGreatPaHostRoutesQ1
import Derived.Test.YtfiefdkgneilkaaGreatPaHostRoutesQ2
import Derived.Test.YtfiefdkgneilkaaGreatPaHostRoutesQ3
import Derived.Test.YtfiefdkgneilkaaGreatPaHostRoutesQ4
import Derived.Test.YtfiefdkgneilkaaGreatPaHostRoutesQ5
import Derived.Test.YtfiefdkgneilkaaGreatPaHostRoutesQ6
import Derived.Test.YtfiefdkgneilkaaGreatPaHostRoutesQ7
import Derived.Test.YtfiefdkgneilkaaGreatPaHostRoutesQ8
import Derived.Test.YtfiefdkgneilkaaGreatPaHostRoutesQ9
import Derived.Test.YtfiefdkgneilkaaGreatPaHostRoutesQ10
import Derived.Test.YtfiefdkgneilkaaGreatPaHostRoutesQ11
import Derived.Test.YtfiefdkgneilkaaGreatPaHostRoutesQ12
import Derived.Test.YtfiefdkgneilkaaGreatPaHostRoutesQ13
import Derived.Test.YtfiefdkgneilkaaGreatPaHostRoutesQ14
import Derived.Test.YtfiefdkgneilkaaGreatPaHostRoutesQ15
import Derived.Test.YtfiefdkgneilkaaGreatPaHostRoutesQ16
import Derived.Test.YtfiefdkgneilkaaGreatPaHostRoutesQ17
import Derived.Test.YtfiefdkgneilkaaGreatJfHostRoutes
namespace Go.Proofs.YtfiefdkgneilkaaGreat.hostRoutes
open Go.ChangeShapes Go.WideShapes Go.ChangeAt Go.RowKit
set_option linter.unusedVariables false      -- a walk need not use every 'w<i>' (that an integer argument fits its kind)

theorem own : ownKnob Tryz.prog.godebug = none := by kernel_rfl

theorem walk (a0 : Int) (a1 : Bool) (w0 : (Lit.int .u32 a0).wf = true) (w : World) :
    Calls Tryz.prog 7 #[.int .u32 a0, .bool a1] w fun e w' => e = .returned (.bool true) ∧ Kp [] w w' := by
  have h0 : w0 = w0 := rfl
  have hw0 : 0 ≤ a0 ∧ a0 ≤ 4294967295 := by
    have h1 := wf_int w0
    have h2 : IntKind.u32.min = 0 := by decide
    have h3 : IntKind.u32.max = 4294967295 := by decide
    rw [h2, h3] at h1
    exact h1
  have hc0 : (2147483648 ≤ a0 ∧ a0 ≤ 3758096383) ∨ (1073741824 ≤ a0 ∧ a0 ≤ 2147483647) ∨ (536870912 ≤ a0 ∧ a0 ≤ 1073741823) ∨ (268435456 ≤ a0 ∧ a0 ≤ 536870911) ∨ (1 ≤ a0 ∧ a0 ≤ 134217727) ∨ (201326592 ≤ a0 ∧ a0 ≤ 268435455) ∨ (134217728 ≤ a0 ∧ a0 ≤ 167772159) ∨ (184549376 ≤ a0 ∧ a0 ≤ 201326591) ∨ (176160768 ≤ a0 ∧ a0 ≤ 184549375) ∨ (171966464 ≤ a0 ∧ a0 ≤ 176160767) ∨ (169869312 ≤ a0 ∧ a0 ≤ 171966463) ∨ (168820736 ≤ a0 ∧ a0 ≤ 169869311) ∨ (168296448 ≤ a0 ∧ a0 ≤ 168820735) ∨ (168034304 ≤ a0 ∧ a0 ≤ 168296447) ∨ (167903232 ≤ a0 ∧ a0 ≤ 168034303) ∨ (167837696 ≤ a0 ∧ a0 ≤ 167903231) ∨ (167804928 ≤ a0 ∧ a0 ≤ 167837695) ∨ (167788544 ≤ a0 ∧ a0 ≤ 167804927) ∨ (167780352 ≤ a0 ∧ a0 ≤ 167788543) ∨ (167776256 ≤ a0 ∧ a0 ≤ 167780351) ∨ (167774208 ≤ a0 ∧ a0 ≤ 167776255) ∨ (167773184 ≤ a0 ∧ a0 ≤ 167774207) ∨ (167772672 ≤ a0 ∧ a0 ≤ 167773183) ∨ (167772416 ≤ a0 ∧ a0 ≤ 167772671) ∨ (0 ≤ a0 ∧ a0 ≤ 0) ∨ (167772160 ≤ a0 ∧ a0 ≤ 167772415) ∨ (3758096384 ≤ a0 ∧ a0 ≤ 4294967295) := by omega
  rcases hc0 with hr0 | hr0 | hr0 | hr0 | hr0 | hr0 | hr0 | hr0 | hr0 | hr0 | hr0 | hr0 | hr0 | hr0 | hr0 | hr0 | hr0 | hr0 | hr0 | hr0 | hr0 | hr0 | hr0 | hr0 | hr0 | hr0 | hr0
  · cases a1 with
    | true =>
      exact pT0_any a0 hr0 w
    | false =>
      exact pF0_any a0 hr0 w
  · cases a1 with
    | true =>
      exact pT1_any a0 hr0 w
    | false =>
      exact pF1_any a0 hr0 w
  · cases a1 with
    | true =>
      exact pT2_any a0 hr0 w
    | false =>
      exact pF2_any a0 hr0 w
  · cases a1 with
    | true =>
      exact pT3_any a0 hr0 w
    | false =>
      exact pF3_any a0 hr0 w
  · cases a1 with
    | true =>
      exact pT4_any a0 hr0 w
    | false =>
      exact pF4_any a0 hr0 w
  · cases a1 with
    | true =>
      exact pT5_any a0 hr0 w
    | false =>
      exact pF5_any a0 hr0 w
  · cases a1 with
    | true =>
      exact pT6_any a0 hr0 w
    | false =>
      exact pF6_any a0 hr0 w
  · cases a1 with
    | true =>
      exact pT7_any a0 hr0 w
    | false =>
      exact pF7_any a0 hr0 w
  · cases a1 with
    | true =>
      exact pT8_any a0 hr0 w
    | false =>
      exact pF8_any a0 hr0 w
  · cases a1 with
    | true =>
      exact pT9_any a0 hr0 w
    | false =>
      exact pF9_any a0 hr0 w
  · cases a1 with
    | true =>
      exact pT10_any a0 hr0 w
    | false =>
      exact pF10_any a0 hr0 w
  · cases a1 with
    | true =>
      exact pT11_any a0 hr0 w
    | false =>
      exact pF11_any a0 hr0 w
  · cases a1 with
    | true =>
      exact pT12_any a0 hr0 w
    | false =>
      exact pF12_any a0 hr0 w
  · cases a1 with
    | true =>
      exact pT13_any a0 hr0 w
    | false =>
      exact pF13_any a0 hr0 w
  · cases a1 with
    | true =>
      exact pT14_any a0 hr0 w
    | false =>
      exact pF14_any a0 hr0 w
  · cases a1 with
    | true =>
      exact pT15_any a0 hr0 w
    | false =>
      exact pF15_any a0 hr0 w
  · cases a1 with
    | true =>
      exact pT16_any a0 hr0 w
    | false =>
      exact pF16_any a0 hr0 w
  · cases a1 with
    | true =>
      exact pT17_any a0 hr0 w
    | false =>
      exact pF17_any a0 hr0 w
  · cases a1 with
    | true =>
      exact pT18_any a0 hr0 w
    | false =>
      exact pF18_any a0 hr0 w
  · cases a1 with
    | true =>
      exact pT19_any a0 hr0 w
    | false =>
      exact pF19_any a0 hr0 w
  · cases a1 with
    | true =>
      exact pT20_any a0 hr0 w
    | false =>
      exact pF20_any a0 hr0 w
  · cases a1 with
    | true =>
      exact pT21_any a0 hr0 w
    | false =>
      exact pF21_any a0 hr0 w
  · cases a1 with
    | true =>
      exact pT22_any a0 hr0 w
    | false =>
      exact pF22_any a0 hr0 w
  · cases a1 with
    | true =>
      exact pT23_any a0 hr0 w
    | false =>
      exact pF23_any a0 hr0 w
  · cases a1 with
    | true =>
      exact pT24_any a0 hr0 w
    | false =>
      exact pF24_any a0 hr0 w
  · exact pN_any a0 hr0 a1 w
  · exact pG_any a0 hr0 a1 w

set_option maxRecDepth 100000 in
theorem lifted (os : Os) (started : os.Started) (H : Type) (enc : TypeId × Value → H) :
    ReturnsInHanded {} Tryz.checked os 7 .any (Rows.hostRoutesSpec.pre6 enc Tryz.prog Tryz.f7 Rows.hostRoutesRow.domain false) (Rows.hostRoutesSpec.post enc Tryz.prog Tryz.f7 false true false false) := by
  refine returnsInHanded_of_change (C := Tryz.checked) own started (by kernel_rfl) Tryz.func7
    (ChangeSpec.witness6 (enc := enc) (C := Tryz.checked) false ⟨#[], #[.int .u32 0, .bool false], []⟩ 8 (by kernel_rfl) (by kernel_rfl) (by kernel_rfl) (by kernel_rfl)) ?_
  intro W base args ds gs before hval0 hW hcnd _
  have hval : ∀ (j : Nat) t v, Tryz.f7.params[j]? = some t → args[j]? = some v → Value.okWide Tryz.prog W .any base t v := hval0
  have hW' := hW
  obtain ⟨p, q, hA0, hV, rfl, hfz, hnd⟩ := hW
  have hA : DataW.TrodAll enc Tryz.prog W 0 (fun _ => true) true Tryz.f7.params.toList args.toList ds p := hA0
  rw [Tryz.params7] at hA hval
  obtain ⟨v0, vs0, d0, ds0, p0, q0, hargs, rfl, rfl, h0, r0⟩ := trodAll_cons hA
  obtain ⟨v1, vs1, d1, ds1, p1, q1, rfl, rfl, rfl, h1, r1⟩ := trodAll_cons r0
  obtain ⟨rfl, rfl, rfl⟩ := trodAll_nil r1
  obtain rfl : args = #[v0, v1] := by cases args; simp_all
  obtain ⟨rfl, rfl⟩ := trodVars_none hV
  obtain ⟨a0, rfl, rfl, rfl, w0⟩ := open_int Tryz.underlying23 (hval 0 23 v0 rfl rfl) h0
  obtain ⟨a1, rfl, rfl, rfl⟩ := open_bool Tryz.underlying4 (hval 1 4 v1 rfl rfl) h1
  clear hA0 hval0
  simp only [List.append_nil] at hW'
  refine (walk a0 a1 w0 W).mono fun e W' ⟨he, hg⟩ => ?_
  subst he
  exact ⟨_, rfl, _, _, _, [], _, [], hW', (trodAll_cons_mk (shut_bool Tryz.underlying4 _) trodAll_mk0), (trodAll_cons_mk (shut_int Tryz.underlying23 w0) (trodAll_cons_mk (shut_bool Tryz.underlying4 _) trodAll_mk0)), rfl, hg.below0.frame _, fun h => by cases h⟩

theorem over : Rows.hostRoutesRow.holds Tryz.pinned (OpenSpec.ofChange Rows.hostRoutesSpec) :=
  OpenClaim.holds_of_wide 7 Tryz.f7 rfl rfl rfl rfl rfl rfl rfl ⟨rfl, rfl, rfl, rfl, rfl⟩ rfl rfl rfl rfl rfl j_func Tryz.func7 joined
    (of_decide_eq_true (by kernel_rfl)) (by unfold Func.isWrapper; first | (rw [if_pos (by decide +kernel)]; kernel_rfl) | (rw [if_neg (by decide +kernel)]; exact ⟨rfl, rfl⟩))
    (fun os started H enc _ => lifted os started H enc)

theorem proved : Rows.HostRoutesSaid :=
  over
end Go.Proofs.YtfiefdkgneilkaaGreat.hostRoutes


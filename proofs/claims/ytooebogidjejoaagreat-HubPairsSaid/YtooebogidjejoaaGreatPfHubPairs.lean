/-
  It is proved that many connections between two hubs each hand out their own bytes (wharflaw18.HubPairs), for all rows of bytes that may be given.
-/
import Derived.Test.YtooebogidjejoaaGreatRows
import Derived.WalkKit
import Derived.ProofKit
import Derived.OpenShut
import Derived.Below
import Derived.Test.YtooebogidjejoaaGreatHpn
import Derived.Test.YtooebogidjejoaaGreatPcHP
import Derived.Test.YtooebogidjejoaaGreatHpX
import Derived.Test.YtooebogidjejoaaGreatJfHubPairs
import Derived.SizedLaws
import Derived.JoinedCond
import Derived.Deep.CondSized
namespace Go.Proofs.YtooebogidjejoaaGreat.hubPairs
open Go.ChangeShapes Go.WideShapes Go.ChangeAt Go.RowKit
open Go
set_option linter.unusedVariables false
set_option linter.unusedSimpArgs false

theorem own : ownKnob Tryz.prog.godebug = none := by kernel_rfl
theorem walk (w : World) (q : Option Addr) (n c : Nat) (hq : RowsIn w q n) (hn : (n : Int) ≤ 9223372036854775807) : Calls Tryz.prog 3 #[.slice q n c] w fun e w' => e = .returned (.bool true) ∧ Kp [] w w' := by
  by_cases h1 : n ≤ 30
  · exact law_ok allH hq h1
  · exact xL_any w q n c ⟨by omega, hn⟩

set_option maxRecDepth 100000 in
theorem lifted (os : Os) (started : os.Started) (H : Type) (enc : TypeId × Value → H) :
    ReturnsInHanded {} Tryz.checked os 3 .any (Rows.hubPairsSpec.pre6 enc Tryz.prog Tryz.f3 Rows.hubPairsRow.domain false) (Rows.hubPairsSpec.post enc Tryz.prog Tryz.f3 false true false false) := by
  refine returnsInHanded_of_change (C := Tryz.checked) own started (by kernel_rfl) Tryz.func3
    (ChangeSpec.witness6 (enc := enc) (C := Tryz.checked) false ⟨#[], #[.slice none 0 0], []⟩ 8 (by kernel_rfl) (by kernel_rfl) (by kernel_rfl) (by kernel_rfl)) ?_
  intro W base args ds gs before hval0 hW hcnd _
  have hval : ∀ (j : Nat) t v, Tryz.f3.params[j]? = some t → args[j]? = some v → Value.okWide Tryz.prog W .any base t v := hval0
  have hW' := hW
  obtain ⟨p, q, hA0, hV, rfl, hfz, hnd⟩ := hW
  have hA : DataW.TrodAll enc Tryz.prog W 0 (fun _ => true) true Tryz.f3.params.toList args.toList ds p := hA0
  rw [Tryz.params3] at hA hval
  obtain ⟨v0, vs0, d0, ds0, p_0, q0, hargs, rfl, rfl, k0, r0⟩ := trodAll_cons hA
  obtain ⟨rfl, rfl, rfl⟩ := trodAll_nil r0
  obtain rfl : args = #[v0] := by cases args; simp_all
  obtain ⟨rfl, rfl⟩ := trodVars_none hV
  have lt0 : ∀ x ∈ p_0, x.block < W.heap.size := by obtain ⟨m, hm⟩ := k0; exact DataW.trod_lt m _ _ _ hm
  obtain ⟨qa, n, c, rfl, hn, hrow⟩ : ∃ q n c, v0 = .slice q n c ∧ (n : Int) ≤ 9223372036854775807 ∧ RowsIn W q n := by
    obtain ⟨fuel, hf⟩ := k0
    obtain ⟨qa, na, ca, rfl⟩ := okWide_slice Tryz.underlying22 (hval 0 22 v0 rfl rfl)
    exact open_rows (x := (d0, p_0)) Tryz.underlying22 Tryz.underlying35 Tryz.underlying5 (by kernel_rfl) (by kernel_rfl) hf
  clear hA0 hval0
  refine (walk W qa n c hrow hn).mono fun e W' ⟨he, hg⟩ => ?_
  subst he
  have bel := hg.below0
  exact ⟨_, rfl, _, _, _, [], _, [], hW', trodAll_mk1 (shut_bool Tryz.underlying4 _), (trodAll_cons_mk (Below.trod laid_out (by kernel_rfl) (of_decide_eq_true (by kernel_rfl)) k0 bel lt0) trodAll_mk0), rfl, bel.frame _, fun h => by cases h⟩

theorem over : Rows.hubPairsRow.holds Tryz.pinned (OpenSpec.ofChange Rows.hubPairsSpec) :=
  OpenClaim.holds_of_wide 3 Tryz.f3 rfl rfl rfl rfl rfl rfl rfl ⟨rfl, rfl, rfl, rfl, rfl⟩ rfl rfl rfl rfl rfl j_func Tryz.func3 joined
    (of_decide_eq_true (by kernel_rfl)) (by unfold Func.isWrapper; first | (rw [if_pos (by decide +kernel)]; kernel_rfl) | (rw [if_neg (by decide +kernel)]; exact ⟨rfl, rfl⟩))
    (fun os started H enc _ => lifted os started H enc)

theorem proved : Rows.HubPairsSaid := over
end Go.Proofs.YtooebogidjejoaaGreat.hubPairs

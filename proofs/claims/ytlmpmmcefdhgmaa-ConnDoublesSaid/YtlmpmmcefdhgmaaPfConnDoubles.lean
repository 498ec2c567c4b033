/-
  ConnDoubles.
-/
import Derived.Test.YtlmpmmcefdhgmaaRows
import Derived.WalkKit
import Derived.ProofKit
import Derived.OpenShut
import Derived.Below
import Derived.Test.YtlmpmmcefdhgmaaPaConnDoublesQ0
import Derived.Test.YtlmpmmcefdhgmaaPaConnDoublesQ1
import Derived.Test.YtlmpmmcefdhgmaaPaConnDoublesQ2
import Derived.Test.YtlmpmmcefdhgmaaPaConnDoublesQ3
import Derived.Test.YtlmpmmcefdhgmaaJfConnDoubles
namespace Go.Proofs.Ytlmpmmcefdhgmaa.connDoubles
open Go.ChangeShapes Go.WideShapes Go.ChangeAt Go.RowKit
open Go
set_option linter.unusedVariables false
set_option linter.unusedSimpArgs false

theorem own : ownKnob Try.prog.godebug = none := by kernel_rfl

theorem walk {v : Value} {w : World} (h : RowIn w v) (m : Int) (hm : -9223372036854775808 ≤ m ∧ m ≤ 9223372036854775807) : Calls Try.prog 3 #[v, .int .i64 m] w fun e w' => e = .returned (.bool true) ∧ Kp [] w w' := by
  rcases h with rfl | ⟨a, rfl⟩ | ⟨b, o, n, c, zs, rfl, hn, hx, hz, hc, hw⟩
  · exact pZ_any m hm w
  · exact pE_any (some a) m hm w
  · by_cases h0 : n = 0
    · exact pN_any (by omega) hn hz hc hw m hm
    · by_cases h1 : n ≤ 1000
      · have hc0 : m < 0 ∨ 20 < m ∨ m = 0 ∨ m = 1 ∨ m = 2 ∨ m = 3 ∨ m = 4 ∨ m = 5 ∨ m = 6 ∨ m = 7 ∨ m = 8 ∨ m = 9 ∨ m = 10 ∨ m = 11 ∨ m = 12 ∨ m = 13 ∨ m = 14 ∨ m = 15 ∨ m = 16 ∨ m = 17 ∨ m = 18 ∨ m = 19 ∨ m = 20 := by omega
        rcases hc0 with h2 | h2 | h2 | h2 | h2 | h2 | h2 | h2 | h2 | h2 | h2 | h2 | h2 | h2 | h2 | h2 | h2 | h2 | h2 | h2 | h2 | h2 | h2
        · exact pL_any (by omega) hn hz hc hw m (by omega)
        · exact pH_any (by omega) hn hz hc hw m (by omega)
        · exact pM0_any (by omega) hn hz hc hw m (by omega)
        · exact pM1_any (by omega) hn hz hc hw m (by omega)
        · exact pM2_any (by omega) hn hz hc hw m (by omega)
        · exact pM3_any (by omega) hn hz hc hw m (by omega)
        · exact pM4_any (by omega) hn hz hc hw m (by omega)
        · exact pM5_any (by omega) hn hz hc hw m (by omega)
        · exact pM6_any (by omega) hn hz hc hw m (by omega)
        · exact pM7_any (by omega) hn hz hc hw m (by omega)
        · exact pM8_any (by omega) hn hz hc hw m (by omega)
        · exact pM9_any (by omega) hn hz hc hw m (by omega)
        · exact pM10_any (by omega) hn hz hc hw m (by omega)
        · exact pM11_any (by omega) hn hz hc hw m (by omega)
        · exact pM12_any (by omega) hn hz hc hw m (by omega)
        · exact pM13_any (by omega) hn hz hc hw m (by omega)
        · exact pM14_any (by omega) hn hz hc hw m (by omega)
        · exact pM15_any (by omega) hn hz hc hw m (by omega)
        · exact pM16_any (by omega) hn hz hc hw m (by omega)
        · exact pM17_any (by omega) hn hz hc hw m (by omega)
        · exact pM18_any (by omega) hn hz hc hw m (by omega)
        · exact pM19_any (by omega) hn hz hc hw m (by omega)
        · exact pM20_any (by omega) hn hz hc hw m (by omega)
      · exact pG_any _ n c (by omega) m hm w

set_option maxRecDepth 100000 in
theorem lifted (os : Os) (started : os.Started) (H : Type) (enc : TypeId × Value → H) :
    ReturnsInHanded {} Try.checked os 3 .any (Rows.connDoublesSpec.pre6 enc Try.prog Try.f3 Rows.connDoublesRow.domain false) (Rows.connDoublesSpec.post enc Try.prog Try.f3 false true false false) := by
  refine returnsInHanded_of_change (C := Try.checked) own started (by kernel_rfl) Try.func3
    (ChangeSpec.witness6 (enc := enc) (C := Try.checked) false ⟨#[], #[.slice none 0 0, .int .i64 0], []⟩ 8 (by kernel_rfl) (by kernel_rfl) (by kernel_rfl) (by kernel_rfl)) ?_
  intro W base args ds gs before hval0 hW hcnd _
  have hval : ∀ (j : Nat) t v, Try.f3.params[j]? = some t → args[j]? = some v → Value.okWide Try.prog W .any base t v := hval0
  have hW' := hW
  obtain ⟨p, q, hA0, hV, rfl, hfz, hnd⟩ := hW
  have hA : DataW.TrodAll enc Try.prog W 0 (fun _ => true) true Try.f3.params.toList args.toList ds p := hA0
  rw [Try.params3] at hA hval
  obtain ⟨v0, vs0, d0, ds0, p_0, q0, hargs, rfl, rfl, k0, r0⟩ := trodAll_cons hA
  obtain ⟨v1, vs1, d1, ds1, p_1, q1, rfl, rfl, rfl, k1, r1⟩ := trodAll_cons r0
  obtain ⟨rfl, rfl, rfl⟩ := trodAll_nil r1
  obtain rfl : args = #[v0, v1] := by cases args; simp_all
  obtain ⟨rfl, rfl⟩ := trodVars_none hV
  have lt0 : ∀ x ∈ p_0, x.block < W.heap.size := by obtain ⟨m, hm⟩ := k0; exact DataW.trod_lt m _ _ _ hm
  obtain ⟨m, rfl, rfl, rfl, w1⟩ := open_int Try.underlying3 (hval 1 3 v1 rfl rfl) k1
  have hm : (-9223372036854775808 : Int) ≤ m ∧ m ≤ 9223372036854775807 := by simpa [Lit.wf, IntKind.min, IntKind.max, IntKind.signed, IntKind.bits] using w1
  have hrow : RowIn W v0 := by
    obtain ⟨a0, len0, cap0, rfl⟩ := okWide_slice Try.underlying22 (hval 0 22 v0 rfl rfl)
    obtain ⟨fuel, hf⟩ := k0
    exact open_row Try.underlying22 Try.underlying5 (by kernel_rfl) hf
  clear hA0 hval0
  refine (walk hrow m hm).mono fun e W' ⟨he, hg⟩ => ?_
  subst he
  have bel := hg.below0
  exact ⟨_, rfl, _, _, _, [], _, [], hW', trodAll_mk1 (shut_bool Try.underlying4 _), (trodAll_cons_mk (Below.trod laid_out (by kernel_rfl) (of_decide_eq_true (by kernel_rfl)) k0 bel lt0) (trodAll_cons_mk (shut_int Try.underlying3 w1) trodAll_mk0)), rfl, bel.frame _, fun h => by cases h⟩

theorem over : Rows.connDoublesRow.holds Try.pinned (OpenSpec.ofChange Rows.connDoublesSpec) :=
  OpenClaim.holds_of_wide 3 Try.f3 rfl rfl rfl rfl rfl rfl rfl ⟨rfl, rfl, rfl, rfl, rfl⟩ rfl rfl rfl rfl rfl j_func Try.func3 joined
    (of_decide_eq_true (by kernel_rfl)) (by unfold Func.isWrapper; first | (rw [if_pos (by decide +kernel)]; kernel_rfl) | (rw [if_neg (by decide +kernel)]; exact ⟨rfl, rfl⟩))
    (fun os started H enc _ => lifted os started H enc)

theorem proved : Rows.ConnDoublesSaid := over
end Go.Proofs.Ytlmpmmcefdhgmaa.connDoubles

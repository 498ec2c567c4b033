/-
  A frame with a datagram or a segment in which one byte of the packet behind its header's first is changed does not reach anybody (wharflaw19.HostAltered). No condition.
-/
import Derived.Test.YtjjfmhaakickcaaGreatRows
import Derived.WalkKit
import Derived.ProofKit
import Derived.OpenShut
import Derived.Below
import Derived.Test.YtjjfmhaakickcaaGreatPcHA
import Derived.Test.YtjjfmhaakickcaaGreatPaHostAlteredQ0
import Derived.Test.YtjjfmhaakickcaaGreatJfHostAltered
namespace Go.Proofs.YtjjfmhaakickcaaGreat.hostAltered
open Go.ChangeShapes Go.WideShapes Go.ChangeAt Go.RowKit
open Go
set_option linter.unusedVariables false
set_option linter.unusedSimpArgs false

theorem own : ownKnob Tryz.prog.godebug = none := by kernel_rfl
section
variable {P : Program} {w : World} {r : Reach} {base : Nat} {t : TypeId} {v : Value}
theorem cell_int {k : IntKind} (ht : P.underlying t = some (.int k)) (h : Cell.okWide P w r base t v) : ∃ n, v = .int k n ∧ k.min ≤ n ∧ n ≤ k.max := by
  simp only [Cell.okWide, ht] at h
  cases v <;> simp_all [Cell.ok, IntKind.has]
theorem cell_bool (ht : P.underlying t = some .bool) (h : Cell.okWide P w r base t v) : ∃ b, v = .bool b := by
  simp only [Cell.okWide, ht] at h
  cases v <;> simp_all [Cell.ok]
theorem cell_slice {e : TypeId} (ht : P.underlying t = some (.slice e)) (h : Cell.okWide P w r base t v) : ∃ a n c, v = .slice a n c := by
  simp only [Cell.okWide, ht] at h
  cases v <;> simp_all [Cell.ok]
end
theorem in_i64 {n : Int} (h : IntKind.i64.min ≤ n ∧ n ≤ IntKind.i64.max) : (-9223372036854775808) ≤ n ∧ n ≤ 9223372036854775807 := by
  rw [show IntKind.i64.min = (-9223372036854775808) by decide, show IntKind.i64.max = 9223372036854775807 by decide] at h
  exact h
theorem in_u8 {n : Int} (h : IntKind.u8.min ≤ n ∧ n ≤ IntKind.u8.max) : 0 ≤ n ∧ n ≤ 255 := by
  rw [show IntKind.u8.min = 0 by decide, show IntKind.u8.max = 255 by decide] at h
  exact h
set_option maxRecDepth 100000 in
theorem open_bool {W : World} {base : Nat} {v : Value} (h : Value.okWide Tryz.prog W .any base 4 v) : ∃ (b0 : Bool), v = .bool b0 := by
    simp only [Value.okWide, Tryz.underlying4] at h
    obtain ⟨b0, rfl⟩ := cell_bool Tryz.underlying4 h
    exact ⟨_, rfl⟩
set_option maxRecDepth 100000 in
theorem open_int {W : World} {base : Nat} {v : Value} (h : Value.okWide Tryz.prog W .any base 3 v) : ∃ (a0 : Int), v = .int .i64 a0 ∧ ((-9223372036854775808) ≤ a0 ∧ a0 ≤ 9223372036854775807) := by
    simp only [Value.okWide, Tryz.underlying3] at h
    obtain ⟨a0, rfl, h0⟩ := cell_int Tryz.underlying3 h
    have h0 := in_i64 h0
    exact ⟨_, rfl, h0⟩
set_option maxRecDepth 100000 in
theorem open_uint8 {W : World} {base : Nat} {v : Value} (h : Value.okWide Tryz.prog W .any base 5 v) : ∃ (a0 : Int), v = .int .u8 a0 ∧ (0 ≤ a0 ∧ a0 ≤ 255) := by
    simp only [Value.okWide, Tryz.underlying5] at h
    obtain ⟨a0, rfl, h0⟩ := cell_int Tryz.underlying5 h
    have h0 := in_u8 h0
    exact ⟨_, rfl, h0⟩

theorem walk (w : World) (v0 : Value) (v0_in : RowIn w v0) (a1 : Int) (h1 : ((-9223372036854775808) ≤ a1 ∧ a1 ≤ 9223372036854775807)) (a2 : Int) (h2 : (0 ≤ a2 ∧ a2 ≤ 255)) (b3 : Bool) : Calls Tryz.prog 3 #[v0, .int .i64 a1, .int .u8 a2, .bool b3] w fun e w' => e = .returned (.bool true) ∧ Kp [] w w' := by
  rcases v0_in with rfl | ⟨q0, rfl⟩ | ⟨bb0, oo0, nn0, cc0, zz0, rfl, x1_0, x2_0, x3_0, x4_0, x5_0⟩
  · have hc2 : (0 ≤ a2 ∧ a2 ≤ 0) ∨ (1 ≤ a2 ∧ a2 ≤ 255) := by omega
    clear h2
    rcases hc2 with h2 | h2
    · exact pZero_any w none 0 0 (by omega) a1 (by omega) a2 (by omega) b3
    · cases b3 with
      | true =>
        exact pTE_any w none 0 0 (by omega) a1 (by omega) a2 (by omega) 
      | false =>
        exact pUE_any w none 0 0 (by omega) a1 (by omega) a2 (by omega) 
  · have hc2 : (0 ≤ a2 ∧ a2 ≤ 0) ∨ (1 ≤ a2 ∧ a2 ≤ 255) := by omega
    clear h2
    rcases hc2 with h2 | h2
    · exact pZero_any w (some q0) 0 0 (by omega) a1 (by omega) a2 (by omega) b3
    · cases b3 with
      | true =>
        exact pTE_any w (some q0) 0 0 (by omega) a1 (by omega) a2 (by omega) 
      | false =>
        exact pUE_any w (some q0) 0 0 (by omega) a1 (by omega) a2 (by omega) 
  · obtain ⟨r0, hr0, k0⟩ : ∃ r : RowD, r = ⟨nn0, bb0, oo0, cc0, zz0⟩ ∧ r.Ok w := ⟨_, rfl, ⟨x1_0, x2_0, x3_0, x4_0, x5_0⟩⟩
    have hv0 : Value.slice (some ⟨bb0, oo0, none⟩) nn0 cc0 = r0.v := by rw [hr0]; rfl
    rw [hv0]
    clear hr0 hv0 x1_0 x2_0 x3_0 x4_0 x5_0
    have mx0 : r0.n ≤ 9223372036854775807 := Nat.le_trans k0.le k0.mx
    have hc0 : (0 ≤ (r0.n : Int) ∧ (r0.n : Int) ≤ 0) ∨ (1 ≤ (r0.n : Int) ∧ (r0.n : Int) ≤ 1000) ∨ (1001 ≤ (r0.n : Int) ∧ (r0.n : Int) ≤ 9223372036854775807) := by omega
    rcases hc0 with hc0 | hc0 | hc0
    · have hc2 : (0 ≤ a2 ∧ a2 ≤ 0) ∨ (1 ≤ a2 ∧ a2 ≤ 255) := by omega
      clear h2
      rcases hc2 with h2 | h2
      · exact pZero_any w _ r0.n r0.c (by omega) a1 (by omega) a2 (by omega) b3
      · cases b3 with
        | true =>
          exact pTE_any w _ r0.n r0.c (by omega) a1 (by omega) a2 (by omega) 
        | false =>
          exact pUE_any w _ r0.n r0.c (by omega) a1 (by omega) a2 (by omega) 
    · have hc2 : (0 ≤ a2 ∧ a2 ≤ 0) ∨ (1 ≤ a2 ∧ a2 ≤ 255) := by omega
      clear h2
      rcases hc2 with h2 | h2
      · exact pZero_any w _ r0.n r0.c (by omega) a1 (by omega) a2 (by omega) b3
      · cases b3 with
        | true =>
          exact pTR_any w r0 k0 (by omega) a1 (by omega) a2 (by omega) 
        | false =>
          exact pUR_any w r0 k0 (by omega) a1 (by omega) a2 (by omega) 
    · exact pBig_any w _ r0.n r0.c (by omega) a1 (by omega) a2 (by omega) b3

set_option maxRecDepth 100000 in
theorem lifted (os : Os) (started : os.Started) (H : Type) (enc : TypeId × Value → H) :
    ReturnsInHanded {} Tryz.checked os 3 .any (Rows.hostAlteredSpec.pre6 enc Tryz.prog Tryz.f3 Rows.hostAlteredRow.domain false) (Rows.hostAlteredSpec.post enc Tryz.prog Tryz.f3 false true false false) := by
  refine returnsInHanded_of_change (C := Tryz.checked) own started (by kernel_rfl) Tryz.func3
    (ChangeSpec.witness6 (enc := enc) (C := Tryz.checked) false ⟨#[], #[.slice none 0 0, .int .i64 0, .int .u8 0, .bool false], []⟩ 8 (by kernel_rfl) (by kernel_rfl) (by kernel_rfl) (by kernel_rfl)) ?_
  intro W base args ds gs before hval0 hW hcnd _
  have hval : ∀ (j : Nat) t v, Tryz.f3.params[j]? = some t → args[j]? = some v → Value.okWide Tryz.prog W .any base t v := hval0
  have hW' := hW
  obtain ⟨p, q, hA0, hV, rfl, hfz, hnd⟩ := hW
  have hA : DataW.TrodAll enc Tryz.prog W 0 (fun _ => true) true Tryz.f3.params.toList args.toList ds p := hA0
  rw [Tryz.params3] at hA hval
  obtain ⟨v0, vs0, d0, ds0, p_0, q0, hargs, rfl, rfl, k0, r0⟩ := trodAll_cons hA
  obtain ⟨v1, vs1, d1, ds1, p_1, q1, rfl, rfl, rfl, k1, r1⟩ := trodAll_cons r0
  obtain ⟨v2, vs2, d2, ds2, p_2, q2, rfl, rfl, rfl, k2, r2⟩ := trodAll_cons r1
  obtain ⟨v3, vs3, d3, ds3, p_3, q3, rfl, rfl, rfl, k3, r3⟩ := trodAll_cons r2
  obtain ⟨rfl, rfl, rfl⟩ := trodAll_nil r3
  obtain rfl : args = #[v0, v1, v2, v3] := by cases args; simp_all
  obtain ⟨rfl, rfl⟩ := trodVars_none hV
  have lt0 : ∀ x ∈ p_0, x.block < W.heap.size := by obtain ⟨m, hm⟩ := k0; exact DataW.trod_lt m _ _ _ hm
  have lt1 : ∀ x ∈ p_1, x.block < W.heap.size := by obtain ⟨m, hm⟩ := k1; exact DataW.trod_lt m _ _ _ hm
  have lt2 : ∀ x ∈ p_2, x.block < W.heap.size := by obtain ⟨m, hm⟩ := k2; exact DataW.trod_lt m _ _ _ hm
  have lt3 : ∀ x ∈ p_3, x.block < W.heap.size := by obtain ⟨m, hm⟩ := k3; exact DataW.trod_lt m _ _ _ hm
  obtain ⟨a1, rfl, hh1⟩ := open_int (hval 1 3 v1 rfl rfl)
  obtain ⟨a2, rfl, hh2⟩ := open_uint8 (hval 2 5 v2 rfl rfl)
  obtain ⟨b3, rfl⟩ := open_bool (hval 3 4 v3 rfl rfl)
  have hrow0 : RowIn W v0 := by
    obtain ⟨fuel, hf⟩ := k0
    obtain ⟨a0, len0, cap0, rfl⟩ := okWide_slice Tryz.underlying22 (hval 0 22 v0 rfl rfl)
    exact open_row Tryz.underlying22 Tryz.underlying5 (by kernel_rfl) hf
  clear hA0 hval0
  refine (walk W _ hrow0 a1 hh1 a2 hh2 b3).mono fun e W' ⟨he, hg⟩ => ?_
  subst he
  have bel := hg.below0
  exact ⟨_, rfl, _, _, _, [], _, [], hW', trodAll_mk1 (shut_bool Tryz.underlying4 _), (trodAll_cons_mk (Below.trod laid_out (by kernel_rfl) (of_decide_eq_true (by kernel_rfl)) k0 bel lt0) (trodAll_cons_mk (Below.trod laid_out (by kernel_rfl) (of_decide_eq_true (by kernel_rfl)) k1 bel lt1) (trodAll_cons_mk (Below.trod laid_out (by kernel_rfl) (of_decide_eq_true (by kernel_rfl)) k2 bel lt2) (trodAll_cons_mk (Below.trod laid_out (by kernel_rfl) (of_decide_eq_true (by kernel_rfl)) k3 bel lt3) trodAll_mk0)))), rfl, bel.frame _, fun h => by cases h⟩

theorem over : Rows.hostAlteredRow.holds Tryz.pinned (OpenSpec.ofChange Rows.hostAlteredSpec) :=
  OpenClaim.holds_of_wide 3 Tryz.f3 rfl rfl rfl rfl rfl rfl rfl ⟨rfl, rfl, rfl, rfl, rfl⟩ rfl rfl rfl rfl rfl j_func Tryz.func3 joined
    (of_decide_eq_true (by kernel_rfl)) (by unfold Func.isWrapper; first | (rw [if_pos (by decide +kernel)]; kernel_rfl) | (rw [if_neg (by decide +kernel)]; exact ⟨rfl, rfl⟩))
    (fun os started H enc _ => lifted os started H enc)

theorem proved : Rows.HostAlteredSaid := over
end Go.Proofs.YtjjfmhaakickcaaGreat.hostAltered

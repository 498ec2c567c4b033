/-
  It is proved that what is sent to a group comes to those that joined it, and to no other (wharflaw19.HostGroups). No condition.
-/
import Derived.Test.YtfiefdkgneilkaaGreatRows
import Derived.WalkKit
import Derived.ProofKit
import Derived.OpenShut
import Derived.Below
import Derived.Test.YtfiefdkgneilkaaGreatPaHostGroupsT
import Derived.Test.YtfiefdkgneilkaaGreatPaHostGroupsF
import Derived.Test.YtfiefdkgneilkaaGreatPaHostGroupsL
import Derived.Test.YtfiefdkgneilkaaGreatPaHostGroupsH
import Derived.Test.YtfiefdkgneilkaaGreatPaHostGroupsP
import Derived.Test.YtfiefdkgneilkaaGreatPaHostGroupsQ
import Derived.Test.YtfiefdkgneilkaaGreatJfHostGroups
namespace Go.Proofs.YtfiefdkgneilkaaGreat.hostGroups
open Go.ChangeShapes Go.WideShapes Go.ChangeAt Go.RowKit
open Go
set_option linter.unusedVariables false
set_option linter.unusedSimpArgs false

theorem own : ownKnob Tryz.prog.godebug = none := by kernel_rfl
section
variable {P : Program} {w : World} {r : Reach} {base : Nat} {t : TypeId} {v : Value}
theorem cell_int {k : IntKind} (ht : P.underlying t = some (.int k)) (h : Cell.okWide P w r base t v) : ∃ n, v = .int k n ∧ k.min ≤ n ∧ n ≤ k.max := by
  simp only [Cell.okWide, ht] at h
  cases v <;> simp_all [Cell.ok, IntKind.has]
theorem cell_bool (ht : P.underlying t = some .bool) (h : Cell.okWide P w r base t v) : ∃ b, v = .bool b := by
  simp only [Cell.okWide, ht] at h
  cases v <;> simp_all [Cell.ok]
theorem cell_slice {e : TypeId} (ht : P.underlying t = some (.slice e)) (h : Cell.okWide P w r base t v) : ∃ a n c, v = .slice a n c ∧ (n : Int) ≤ 9223372036854775807 := by
  simp only [Cell.okWide, ht] at h
  have hmax : IntKind.i64.max = 9223372036854775807 := by decide
  cases v with
  | slice a n c =>
    refine ⟨a, n, c, rfl, ?_⟩
    cases a with
    | none =>
      cases n with
      | zero => omega
      | succ n => simp [Cell.ok, ht] at h
    | some a =>
      simp only [Cell.ok, ht] at h
      rw [hmax] at h
      omega
  | _ => simp_all [Cell.ok]
end
theorem in_i64 {n : Int} (h : IntKind.i64.min ≤ n ∧ n ≤ IntKind.i64.max) : (-9223372036854775808) ≤ n ∧ n ≤ 9223372036854775807 := by
  rw [show IntKind.i64.min = (-9223372036854775808) by decide, show IntKind.i64.max = 9223372036854775807 by decide] at h
  exact h
theorem in_u32 {n : Int} (h : IntKind.u32.min ≤ n ∧ n ≤ IntKind.u32.max) : 0 ≤ n ∧ n ≤ 4294967295 := by
  rw [show IntKind.u32.min = 0 by decide, show IntKind.u32.max = 4294967295 by decide] at h
  exact h
set_option maxRecDepth 100000 in
theorem open_api_Addr {W : World} {base : Nat} {v : Value} (h : Value.okWide Tryz.prog W .any base 23 v) : ∃ (a0 : Int), v = .int .u32 a0 ∧ (0 ≤ a0 ∧ a0 ≤ 4294967295) := by
    simp only [Value.okWide, Tryz.underlying23] at h
    obtain ⟨a0, rfl, h0⟩ := cell_int Tryz.underlying23 h
    have h0 := in_u32 h0
    exact ⟨_, rfl, h0⟩
set_option maxRecDepth 100000 in
theorem open_bool {W : World} {base : Nat} {v : Value} (h : Value.okWide Tryz.prog W .any base 4 v) : ∃ (b0 : Bool), v = .bool b0 := by
    simp only [Value.okWide, Tryz.underlying4] at h
    obtain ⟨b0, rfl⟩ := cell_bool Tryz.underlying4 h
    exact ⟨_, rfl⟩
set_option maxRecDepth 100000 in
theorem open_int {W : World} {base : Nat} {v : Value} (h : Value.okWide Tryz.prog W .any base 3 v) : ∃ (a0 : Int), v = .int .i64 a0 ∧ ((-9223372036854775808) ≤ a0 ∧ a0 ≤ 9223372036854775807) := by
    simp only [Value.okWide, Tryz.underlying3] at h
    obtain ⟨a0, rfl, h0⟩ := cell_int Tryz.underlying3 h
    have h0 := in_i64 h0
    exact ⟨_, rfl, h0⟩

theorem walk (a0 : Int) (h0 : (0 ≤ a0 ∧ a0 ≤ 4294967295)) (b1 : Bool) (a2 : Int) (h2 : ((-9223372036854775808) ≤ a2 ∧ a2 ≤ 9223372036854775807)) (w : World) : Calls Tryz.prog 9 #[.int .u32 a0, .bool b1, .int .i64 a2] w fun e w' => e = .returned (.bool true) ∧ Kp [] w w' := by
  have hc0 : (3758096386 ≤ a0 ∧ a0 ≤ 4026531839) ∨ (0 ≤ a0 ∧ a0 ≤ 3758096385) ∨ (4026531840 ≤ a0 ∧ a0 ≤ 4294967295) := by omega
  clear h0
  rcases hc0 with h0 | h0 | h0
  · have hc2 : (1 ≤ a2 ∧ a2 ≤ 65535) ∨ ((-9223372036854775808) ≤ a2 ∧ a2 ≤ 0) ∨ (65536 ≤ a2 ∧ a2 ≤ 9223372036854775807) := by omega
    clear h2
    rcases hc2 with h2 | h2 | h2
    · cases b1 with
      | true =>
        exact pT_any a0 h0 a2 h2 w
      | false =>
        exact pF_any a0 h0 a2 h2 w
    · exact pP_any a0 h0 b1 a2 h2 w
    · exact pQ_any a0 h0 b1 a2 h2 w
  · exact pL_any a0 h0 b1 a2 h2 w
  · exact pH_any a0 h0 b1 a2 h2 w

set_option maxRecDepth 100000 in
theorem lifted (os : Os) (started : os.Started) (H : Type) (enc : TypeId × Value → H) :
    ReturnsInHanded {} Tryz.checked os 9 .any (Rows.hostGroupsSpec.pre6 enc Tryz.prog Tryz.f9 Rows.hostGroupsRow.domain false) (Rows.hostGroupsSpec.post enc Tryz.prog Tryz.f9 false true false false) := by
  refine returnsInHanded_of_change (C := Tryz.checked) own started (by kernel_rfl) Tryz.func9
    (ChangeSpec.witness6 (enc := enc) (C := Tryz.checked) false ⟨#[], #[.int .u32 0, .bool false, .int .i64 0], []⟩ 8 (by kernel_rfl) (by kernel_rfl) (by kernel_rfl) (by kernel_rfl)) ?_
  intro W base args ds gs before hval0 hW hcnd _
  have hval : ∀ (j : Nat) t v, Tryz.f9.params[j]? = some t → args[j]? = some v → Value.okWide Tryz.prog W .any base t v := hval0
  have hW' := hW
  obtain ⟨p, q, hA0, hV, rfl, hfz, hnd⟩ := hW
  have hA : DataW.TrodAll enc Tryz.prog W 0 (fun _ => true) true Tryz.f9.params.toList args.toList ds p := hA0
  rw [Tryz.params9] at hA hval
  obtain ⟨v0, vs0, d0, ds0, p_0, q0, hargs, rfl, rfl, k0, r0⟩ := trodAll_cons hA
  obtain ⟨v1, vs1, d1, ds1, p_1, q1, rfl, rfl, rfl, k1, r1⟩ := trodAll_cons r0
  obtain ⟨v2, vs2, d2, ds2, p_2, q2, rfl, rfl, rfl, k2, r2⟩ := trodAll_cons r1
  obtain ⟨rfl, rfl, rfl⟩ := trodAll_nil r2
  obtain rfl : args = #[v0, v1, v2] := by cases args; simp_all
  obtain ⟨rfl, rfl⟩ := trodVars_none hV
  have lt0 : ∀ x ∈ p_0, x.block < W.heap.size := by obtain ⟨m, hm⟩ := k0; exact DataW.trod_lt m _ _ _ hm
  have lt1 : ∀ x ∈ p_1, x.block < W.heap.size := by obtain ⟨m, hm⟩ := k1; exact DataW.trod_lt m _ _ _ hm
  have lt2 : ∀ x ∈ p_2, x.block < W.heap.size := by obtain ⟨m, hm⟩ := k2; exact DataW.trod_lt m _ _ _ hm
  obtain ⟨a0, rfl, hh0⟩ := open_api_Addr (hval 0 23 v0 rfl rfl)
  obtain ⟨b1, rfl⟩ := open_bool (hval 1 4 v1 rfl rfl)
  obtain ⟨a2, rfl, hh2⟩ := open_int (hval 2 3 v2 rfl rfl)
  clear hA0 hval0
  refine (walk a0 hh0 b1 a2 hh2 W).mono fun e W' ⟨he, hg⟩ => ?_
  subst he
  have bel := hg.below0
  exact ⟨_, rfl, _, _, _, [], _, [], hW', trodAll_mk1 (shut_bool Tryz.underlying4 _), (trodAll_cons_mk (Below.trod laid_out (by kernel_rfl) (of_decide_eq_true (by kernel_rfl)) k0 bel lt0) (trodAll_cons_mk (Below.trod laid_out (by kernel_rfl) (of_decide_eq_true (by kernel_rfl)) k1 bel lt1) (trodAll_cons_mk (Below.trod laid_out (by kernel_rfl) (of_decide_eq_true (by kernel_rfl)) k2 bel lt2) trodAll_mk0))), rfl, bel.frame _, fun h => by cases h⟩

theorem over : Rows.hostGroupsRow.holds Tryz.pinned (OpenSpec.ofChange Rows.hostGroupsSpec) :=
  OpenClaim.holds_of_wide 9 Tryz.f9 rfl rfl rfl rfl rfl rfl rfl ⟨rfl, rfl, rfl, rfl, rfl⟩ rfl rfl rfl rfl rfl j_func Tryz.func9 joined
    (of_decide_eq_true (by kernel_rfl)) (by unfold Func.isWrapper; first | (rw [if_pos (by decide +kernel)]; kernel_rfl) | (rw [if_neg (by decide +kernel)]; exact ⟨rfl, rfl⟩))
    (fun os started H enc _ => lifted os started H enc)

theorem proved : Rows.HostGroupsSaid := over
end Go.Proofs.YtfiefdkgneilkaaGreat.hostGroups

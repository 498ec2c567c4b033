/-
  It is proved that a nil Host does nothing (wharflaw19.HostOfNothing). No condition.
-/
import Derived.Test.YtfiefdkgneilkaaGreatRows
import Derived.WalkKit
import Derived.ProofKit
import Derived.OpenShut
import Derived.Below
import Derived.Test.YtfiefdkgneilkaaGreatPaHostOfNothingA
import Derived.Test.YtfiefdkgneilkaaGreatJfHostOfNothing
namespace Go.Proofs.YtfiefdkgneilkaaGreat.hostOfNothing
open Go.ChangeShapes Go.WideShapes Go.ChangeAt Go.RowKit
open Go
set_option linter.unusedVariables false
set_option linter.unusedSimpArgs false

theorem own : ownKnob Tryz.prog.godebug = none := by kernel_rfl
section
variable {P : Program} {w : World} {r : Reach} {base : Nat} {t : TypeId} {v : Value}
theorem cell_int {k : IntKind} (ht : P.underlying t = some (.int k)) (h : Cell.okWide P w r base t v) : ∃ n, v = .int k n ∧ k.min ≤ n ∧ n ≤ k.max := by
  simp only [Cell.okWide, ht] at h
  cases v <;> simp_all [Cell.ok, IntKind.has]
theorem cell_bool (ht : P.underlying t = some .bool) (h : Cell.okWide P w r base t v) : ∃ b, v = .bool b := by
  simp only [Cell.okWide, ht] at h
  cases v <;> simp_all [Cell.ok]
theorem cell_slice {e : TypeId} (ht : P.underlying t = some (.slice e)) (h : Cell.okWide P w r base t v) : ∃ a n c, v = .slice a n c ∧ (n : Int) ≤ 9223372036854775807 := by
  simp only [Cell.okWide, ht] at h
  have hmax : IntKind.i64.max = 9223372036854775807 := by decide
  cases v with
  | slice a n c =>
    refine ⟨a, n, c, rfl, ?_⟩
    cases a with
    | none =>
      cases n with
      | zero => omega
      | succ n => simp [Cell.ok, ht] at h
    | some a =>
      simp only [Cell.ok, ht] at h
      rw [hmax] at h
      omega
  | _ => simp_all [Cell.ok]
end
theorem in_i64 {n : Int} (h : IntKind.i64.min ≤ n ∧ n ≤ IntKind.i64.max) : (-9223372036854775808) ≤ n ∧ n ≤ 9223372036854775807 := by
  rw [show IntKind.i64.min = (-9223372036854775808) by decide, show IntKind.i64.max = 9223372036854775807 by decide] at h
  exact h
theorem in_u32 {n : Int} (h : IntKind.u32.min ≤ n ∧ n ≤ IntKind.u32.max) : 0 ≤ n ∧ n ≤ 4294967295 := by
  rw [show IntKind.u32.min = 0 by decide, show IntKind.u32.max = 4294967295 by decide] at h
  exact h
set_option maxRecDepth 100000 in
theorem open___uint8 {W : World} {base : Nat} {v : Value} (h : Value.okWide Tryz.prog W .any base 24 v) : ∃ (p0 : Option Addr) (n0 c0 : Nat), v = .slice p0 n0 c0 ∧ (n0 : Int) ≤ 9223372036854775807 := by
    simp only [Value.okWide, Tryz.underlying24] at h
    obtain ⟨p0, n0, c0, rfl, h0⟩ := cell_slice Tryz.underlying24 h
    exact ⟨_, _, _, rfl, h0⟩
theorem cells_api_Datagram : Tryz.prog.cellTypes Tryz.prog.depth 76 = some [23, 3, 23, 3, 24] := by kernel_rfl
set_option maxRecDepth 100000 in
theorem open_api_Datagram {W : World} {base : Nat} {v : Value} (h : Value.okWide Tryz.prog W .any base 76 v) : ∃ (a0 : Int) (a1 : Int) (a2 : Int) (a3 : Int) (p4 : Option Addr) (n4 c4 : Nat), v = .agg #[.int .u32 a0, .int .i64 a1, .int .u32 a2, .int .i64 a3, .slice p4 n4 c4] ∧ (0 ≤ a0 ∧ a0 ≤ 4294967295) ∧ ((-9223372036854775808) ≤ a1 ∧ a1 ≤ 9223372036854775807) ∧ (0 ≤ a2 ∧ a2 ≤ 4294967295) ∧ ((-9223372036854775808) ≤ a3 ∧ a3 ≤ 9223372036854775807) ∧ (n4 : Int) ≤ 9223372036854775807 := by
  simp only [Value.okWide, Tryz.underlying76] at h
  obtain ⟨cs, rfl, hsz, ts, hts, _, hc⟩ := h
  rw [cells_api_Datagram] at hts
  cases hts
  have hsz : cs.size = 5 := by rw [hsz]; kernel_rfl
  obtain ⟨l⟩ := cs
  match l, hsz with
  | [x0, x1, x2, x3, x4], _ =>
    have g : ∀ i v u, [x0, x1, x2, x3, x4][i]? = some v → ([23, 3, 23, 3, 24] : List TypeId)[i % 5]? = some u → Cell.okWide Tryz.prog W .any base u v := by
      intro i v u hv hu
      obtain ⟨u', h1, h2⟩ := hc i v (by show ([x0, x1, x2, x3, x4] : List Value).toArray[i]? = some v; rw [List.getElem?_toArray]; exact hv)
      have h1 : ([23, 3, 23, 3, 24] : List TypeId)[i % 5]? = some u' := h1
      rw [hu] at h1
      cases h1
      exact h2
    obtain ⟨a0, rfl, h0⟩ := cell_int Tryz.underlying23 (g 0 x0 23 rfl rfl)
    have h0 := in_u32 h0
    obtain ⟨a1, rfl, h1⟩ := cell_int Tryz.underlying3 (g 1 x1 3 rfl rfl)
    have h1 := in_i64 h1
    obtain ⟨a2, rfl, h2⟩ := cell_int Tryz.underlying23 (g 2 x2 23 rfl rfl)
    have h2 := in_u32 h2
    obtain ⟨a3, rfl, h3⟩ := cell_int Tryz.underlying3 (g 3 x3 3 rfl rfl)
    have h3 := in_i64 h3
    obtain ⟨p4, n4, c4, rfl, h4⟩ := cell_slice Tryz.underlying24 (g 4 x4 24 rfl rfl)
    exact ⟨_, _, _, _, _, _, _, rfl, h0, h1, h2, h3, h4⟩
set_option maxRecDepth 100000 in
theorem open_int {W : World} {base : Nat} {v : Value} (h : Value.okWide Tryz.prog W .any base 3 v) : ∃ (a0 : Int), v = .int .i64 a0 ∧ ((-9223372036854775808) ≤ a0 ∧ a0 ≤ 9223372036854775807) := by
    simp only [Value.okWide, Tryz.underlying3] at h
    obtain ⟨a0, rfl, h0⟩ := cell_int Tryz.underlying3 h
    have h0 := in_i64 h0
    exact ⟨_, rfl, h0⟩

theorem walk (p0 : Option Addr) (n0 c0 : Nat) (h0 : (n0 : Int) ≤ 9223372036854775807) (a1 : Int) (h1 : (0 ≤ a1 ∧ a1 ≤ 4294967295)) (a2 : Int) (h2 : ((-9223372036854775808) ≤ a2 ∧ a2 ≤ 9223372036854775807)) (a3 : Int) (h3 : (0 ≤ a3 ∧ a3 ≤ 4294967295)) (a4 : Int) (h4 : ((-9223372036854775808) ≤ a4 ∧ a4 ≤ 9223372036854775807)) (p5 : Option Addr) (n5 c5 : Nat) (h5 : (n5 : Int) ≤ 9223372036854775807) (a6 : Int) (h6 : ((-9223372036854775808) ≤ a6 ∧ a6 ≤ 9223372036854775807)) (w : World) : Calls Tryz.prog 12 #[.slice p0 n0 c0, .agg #[.int .u32 a1, .int .i64 a2, .int .u32 a3, .int .i64 a4, .slice p5 n5 c5], .int .i64 a6] w fun e w' => e = .returned (.bool true) ∧ Kp [] w w' := by
  exact pA_any p0 n0 c0 h0 a1 h1 a2 h2 a3 h3 a4 h4 p5 n5 c5 h5 a6 h6 w

set_option maxRecDepth 100000 in
theorem lifted (os : Os) (started : os.Started) (H : Type) (enc : TypeId × Value → H) :
    ReturnsInHanded {} Tryz.checked os 12 .any (Rows.hostOfNothingSpec.pre6 enc Tryz.prog Tryz.f12 Rows.hostOfNothingRow.domain false) (Rows.hostOfNothingSpec.post enc Tryz.prog Tryz.f12 false true false false) := by
  refine returnsInHanded_of_change (C := Tryz.checked) own started (by kernel_rfl) Tryz.func12
    (ChangeSpec.witness6 (enc := enc) (C := Tryz.checked) false ⟨#[], #[.slice none 0 0, .agg #[.int .u32 0, .int .i64 0, .int .u32 0, .int .i64 0, .slice none 0 0], .int .i64 0], []⟩ 8 (by kernel_rfl) (by kernel_rfl) (by kernel_rfl) (by kernel_rfl)) ?_
  intro W base args ds gs before hval0 hW hcnd _
  have hval : ∀ (j : Nat) t v, Tryz.f12.params[j]? = some t → args[j]? = some v → Value.okWide Tryz.prog W .any base t v := hval0
  have hW' := hW
  obtain ⟨p, q, hA0, hV, rfl, hfz, hnd⟩ := hW
  have hA : DataW.TrodAll enc Tryz.prog W 0 (fun _ => true) true Tryz.f12.params.toList args.toList ds p := hA0
  rw [Tryz.params12] at hA hval
  obtain ⟨v0, vs0, d0, ds0, p_0, q0, hargs, rfl, rfl, k0, r0⟩ := trodAll_cons hA
  obtain ⟨v1, vs1, d1, ds1, p_1, q1, rfl, rfl, rfl, k1, r1⟩ := trodAll_cons r0
  obtain ⟨v2, vs2, d2, ds2, p_2, q2, rfl, rfl, rfl, k2, r2⟩ := trodAll_cons r1
  obtain ⟨rfl, rfl, rfl⟩ := trodAll_nil r2
  obtain rfl : args = #[v0, v1, v2] := by cases args; simp_all
  obtain ⟨rfl, rfl⟩ := trodVars_none hV
  have lt0 : ∀ x ∈ p_0, x.block < W.heap.size := by obtain ⟨m, hm⟩ := k0; exact DataW.trod_lt m _ _ _ hm
  have lt1 : ∀ x ∈ p_1, x.block < W.heap.size := by obtain ⟨m, hm⟩ := k1; exact DataW.trod_lt m _ _ _ hm
  have lt2 : ∀ x ∈ p_2, x.block < W.heap.size := by obtain ⟨m, hm⟩ := k2; exact DataW.trod_lt m _ _ _ hm
  obtain ⟨p0, n0, c0, rfl, hh0⟩ := open___uint8 (hval 0 24 v0 rfl rfl)
  obtain ⟨a1, a2, a3, a4, p5, n5, c5, rfl, hh1, hh2, hh3, hh4, hh5⟩ := open_api_Datagram (hval 1 76 v1 rfl rfl)
  obtain ⟨a6, rfl, hh6⟩ := open_int (hval 2 3 v2 rfl rfl)
  clear hA0 hval0
  refine (walk p0 n0 c0 hh0 a1 hh1 a2 hh2 a3 hh3 a4 hh4 p5 n5 c5 hh5 a6 hh6 W).mono fun e W' ⟨he, hg⟩ => ?_
  subst he
  have bel := hg.below0
  exact ⟨_, rfl, _, _, _, [], _, [], hW', trodAll_mk1 (shut_bool Tryz.underlying4 _), (trodAll_cons_mk (Below.trod laid_out (by kernel_rfl) (of_decide_eq_true (by kernel_rfl)) k0 bel lt0) (trodAll_cons_mk (Below.trod laid_out (by kernel_rfl) (of_decide_eq_true (by kernel_rfl)) k1 bel lt1) (trodAll_cons_mk (Below.trod laid_out (by kernel_rfl) (of_decide_eq_true (by kernel_rfl)) k2 bel lt2) trodAll_mk0))), rfl, bel.frame _, fun h => by cases h⟩

theorem over : Rows.hostOfNothingRow.holds Tryz.pinned (OpenSpec.ofChange Rows.hostOfNothingSpec) :=
  OpenClaim.holds_of_wide 12 Tryz.f12 rfl rfl rfl rfl rfl rfl rfl ⟨rfl, rfl, rfl, rfl, rfl⟩ rfl rfl rfl rfl rfl j_func Tryz.func12 joined
    (of_decide_eq_true (by kernel_rfl)) (by unfold Func.isWrapper; first | (rw [if_pos (by decide +kernel)]; kernel_rfl) | (rw [if_neg (by decide +kernel)]; exact ⟨rfl, rfl⟩))
    (fun os started H enc _ => lifted os started H enc)

theorem proved : Rows.HostOfNothingSaid := over
end Go.Proofs.YtfiefdkgneilkaaGreat.hostOfNothing

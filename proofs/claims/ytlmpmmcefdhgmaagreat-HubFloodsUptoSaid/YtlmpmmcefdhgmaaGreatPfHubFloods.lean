/-
  It is proved that however many SYNs come, a listener has no more than its backlog waiting, and the table is not overrun (wharflaw18.HubFloods, the narrowed statement: what it reads is of bulk at most 1048576).
-/
import Derived.Test.YtlmpmmcefdhgmaaGreatRows
import Derived.WalkKit
import Derived.ProofKit
import Derived.OpenShut
import Derived.Below
import Derived.Test.YtlmpmmcefdhgmaaGreatPaHubFloodsQ0
import Derived.Test.YtlmpmmcefdhgmaaGreatPaHubFloodsQ1
import Derived.Test.YtlmpmmcefdhgmaaGreatPaHubFloodsQ2
import Derived.Test.YtlmpmmcefdhgmaaGreatPaHubFloodsQ3
import Derived.Test.YtlmpmmcefdhgmaaGreatPaHubFloodsQ4
import Derived.Test.YtlmpmmcefdhgmaaGreatPaHubFloodsQ5
import Derived.Test.YtlmpmmcefdhgmaaGreatPaHubFloodsQ6
import Derived.Test.YtlmpmmcefdhgmaaGreatPaHubFloodsQ7
import Derived.Test.YtlmpmmcefdhgmaaGreatJfHubFloodsUpto
import Derived.SizedLaws
import Derived.JoinedCond
import Derived.Deep.CondSized
namespace Go.Proofs.YtlmpmmcefdhgmaaGreat.hubFloods
open Go.ChangeShapes Go.WideShapes Go.ChangeAt Go.RowKit
open Go
set_option linter.unusedVariables false
set_option linter.unusedSimpArgs false

theorem own : ownKnob Tryz.prog.godebug = none := by kernel_rfl
section
variable {P : Program} {w : World} {r : Reach} {base : Nat} {t : TypeId} {v : Value}
theorem cell_int {k : IntKind} (ht : P.underlying t = some (.int k)) (h : Cell.okWide P w r base t v) : ∃ n, v = .int k n ∧ k.min ≤ n ∧ n ≤ k.max := by
  simp only [Cell.okWide, ht] at h
  cases v <;> simp_all [Cell.ok, IntKind.has]
theorem cell_bool (ht : P.underlying t = some .bool) (h : Cell.okWide P w r base t v) : ∃ b, v = .bool b := by
  simp only [Cell.okWide, ht] at h
  cases v <;> simp_all [Cell.ok]
theorem cell_slice {e : TypeId} (ht : P.underlying t = some (.slice e)) (h : Cell.okWide P w r base t v) : ∃ a n c, v = .slice a n c ∧ (n : Int) ≤ 9223372036854775807 := by
  simp only [Cell.okWide, ht] at h
  have hmax : IntKind.i64.max = 9223372036854775807 := by decide
  cases v with
  | slice a n c =>
    refine ⟨a, n, c, rfl, ?_⟩
    cases a with
    | none =>
      cases n with
      | zero => omega
      | succ n => simp [Cell.ok, ht] at h
    | some a =>
      simp only [Cell.ok, ht] at h
      rw [hmax] at h
      omega
  | _ => simp_all [Cell.ok]
end
theorem in_i64 {n : Int} (h : IntKind.i64.min ≤ n ∧ n ≤ IntKind.i64.max) : (-9223372036854775808) ≤ n ∧ n ≤ 9223372036854775807 := by
  rw [show IntKind.i64.min = (-9223372036854775808) by decide, show IntKind.i64.max = 9223372036854775807 by decide] at h
  exact h
set_option maxRecDepth 100000 in
theorem open_int {W : World} {base : Nat} {v : Value} (h : Value.okWide Tryz.prog W .any base 3 v) : ∃ (a0 : Int), v = .int .i64 a0 ∧ ((-9223372036854775808) ≤ a0 ∧ a0 ≤ 9223372036854775807) := by
    simp only [Value.okWide, Tryz.underlying3] at h
    obtain ⟨a0, rfl, h0⟩ := cell_int Tryz.underlying3 h
    have h0 := in_i64 h0
    exact ⟨_, rfl, h0⟩

theorem walk (a0 : Int) (h0 : ((-9223372036854775808) ≤ a0 ∧ a0 ≤ 9223372036854775807)) (a1 : Int) (h1 : ((-9223372036854775808) ≤ a1 ∧ a1 ≤ 9223372036854775807)) (a2 : Int) (h2 : ((-9223372036854775808) ≤ a2 ∧ a2 ≤ 9223372036854775807)) (w : World) : Calls Tryz.prog 3 #[.int .i64 a0, .int .i64 a1, .int .i64 a2] w fun e w' => e = .returned (.bool true) ∧ Kp [] w w' := by
  rcases (by omega : a2 ≤ 0 ∨ 65536 ≤ a2 ∨ (1 ≤ a2 ∧ a2 ≤ 65535)) with p | p | p
  · exact pP_any a0 ⟨by omega, by omega⟩ a1 ⟨by omega, by omega⟩ a2 ⟨by omega, by omega⟩ w
  · exact pQ_any a0 ⟨by omega, by omega⟩ a1 ⟨by omega, by omega⟩ a2 ⟨by omega, by omega⟩ w
  rcases (by omega : a0 ≤ -1 ∨ 301 ≤ a0 ∨ (0 ≤ a0 ∧ a0 ≤ 300)) with q | q | q
  · exact pL_any a0 ⟨by omega, by omega⟩ a1 ⟨by omega, by omega⟩ a2 ⟨by omega, by omega⟩ w
  · exact pH_any a0 ⟨by omega, by omega⟩ a1 ⟨by omega, by omega⟩ a2 ⟨by omega, by omega⟩ w
  rcases (by omega : a1 ≤ 0 ∨ 33 ≤ a1 ∨ (1 ≤ a1 ∧ a1 ≤ 32)) with r | r | r
  · exact pBL_any a0 ⟨by omega, by omega⟩ a1 ⟨by omega, by omega⟩ a2 ⟨by omega, by omega⟩ w
  · exact pBH_any a0 ⟨by omega, by omega⟩ a1 ⟨by omega, by omega⟩ a2 ⟨by omega, by omega⟩ w
  by_cases hn : a0 ≤ a1
  · rcases (by omega : a0 = 0 ∨ a0 = 1 ∨ a0 = 2 ∨ a0 = 3 ∨ a0 = 4 ∨ a0 = 5 ∨ a0 = 6 ∨ a0 = 7 ∨ a0 = 8 ∨ a0 = 9 ∨ a0 = 10 ∨ a0 = 11 ∨ a0 = 12 ∨ a0 = 13 ∨ a0 = 14 ∨ a0 = 15 ∨ a0 = 16 ∨ a0 = 17 ∨ a0 = 18 ∨ a0 = 19 ∨ a0 = 20 ∨ a0 = 21 ∨ a0 = 22 ∨ a0 = 23 ∨ a0 = 24 ∨ a0 = 25 ∨ a0 = 26 ∨ a0 = 27 ∨ a0 = 28 ∨ a0 = 29 ∨ a0 = 30 ∨ a0 = 31 ∨ a0 = 32) with s | s | s | s | s | s | s | s | s | s | s | s | s | s | s | s | s | s | s | s | s | s | s | s | s | s | s | s | s | s | s | s | s
    · exact pF0_any a0 ⟨by omega, by omega⟩ a1 ⟨by omega, by omega⟩ a2 ⟨by omega, by omega⟩ w
    · exact pF1_any a0 ⟨by omega, by omega⟩ a1 ⟨by omega, by omega⟩ a2 ⟨by omega, by omega⟩ w
    · exact pF2_any a0 ⟨by omega, by omega⟩ a1 ⟨by omega, by omega⟩ a2 ⟨by omega, by omega⟩ w
    · exact pF3_any a0 ⟨by omega, by omega⟩ a1 ⟨by omega, by omega⟩ a2 ⟨by omega, by omega⟩ w
    · exact pF4_any a0 ⟨by omega, by omega⟩ a1 ⟨by omega, by omega⟩ a2 ⟨by omega, by omega⟩ w
    · exact pF5_any a0 ⟨by omega, by omega⟩ a1 ⟨by omega, by omega⟩ a2 ⟨by omega, by omega⟩ w
    · exact pF6_any a0 ⟨by omega, by omega⟩ a1 ⟨by omega, by omega⟩ a2 ⟨by omega, by omega⟩ w
    · exact pF7_any a0 ⟨by omega, by omega⟩ a1 ⟨by omega, by omega⟩ a2 ⟨by omega, by omega⟩ w
    · exact pF8_any a0 ⟨by omega, by omega⟩ a1 ⟨by omega, by omega⟩ a2 ⟨by omega, by omega⟩ w
    · exact pF9_any a0 ⟨by omega, by omega⟩ a1 ⟨by omega, by omega⟩ a2 ⟨by omega, by omega⟩ w
    · exact pF10_any a0 ⟨by omega, by omega⟩ a1 ⟨by omega, by omega⟩ a2 ⟨by omega, by omega⟩ w
    · exact pF11_any a0 ⟨by omega, by omega⟩ a1 ⟨by omega, by omega⟩ a2 ⟨by omega, by omega⟩ w
    · exact pF12_any a0 ⟨by omega, by omega⟩ a1 ⟨by omega, by omega⟩ a2 ⟨by omega, by omega⟩ w
    · exact pF13_any a0 ⟨by omega, by omega⟩ a1 ⟨by omega, by omega⟩ a2 ⟨by omega, by omega⟩ w
    · exact pF14_any a0 ⟨by omega, by omega⟩ a1 ⟨by omega, by omega⟩ a2 ⟨by omega, by omega⟩ w
    · exact pF15_any a0 ⟨by omega, by omega⟩ a1 ⟨by omega, by omega⟩ a2 ⟨by omega, by omega⟩ w
    · exact pF16_any a0 ⟨by omega, by omega⟩ a1 ⟨by omega, by omega⟩ a2 ⟨by omega, by omega⟩ w
    · exact pF17_any a0 ⟨by omega, by omega⟩ a1 ⟨by omega, by omega⟩ a2 ⟨by omega, by omega⟩ w
    · exact pF18_any a0 ⟨by omega, by omega⟩ a1 ⟨by omega, by omega⟩ a2 ⟨by omega, by omega⟩ w
    · exact pF19_any a0 ⟨by omega, by omega⟩ a1 ⟨by omega, by omega⟩ a2 ⟨by omega, by omega⟩ w
    · exact pF20_any a0 ⟨by omega, by omega⟩ a1 ⟨by omega, by omega⟩ a2 ⟨by omega, by omega⟩ w
    · exact pF21_any a0 ⟨by omega, by omega⟩ a1 ⟨by omega, by omega⟩ a2 ⟨by omega, by omega⟩ w
    · exact pF22_any a0 ⟨by omega, by omega⟩ a1 ⟨by omega, by omega⟩ a2 ⟨by omega, by omega⟩ w
    · exact pF23_any a0 ⟨by omega, by omega⟩ a1 ⟨by omega, by omega⟩ a2 ⟨by omega, by omega⟩ w
    · exact pF24_any a0 ⟨by omega, by omega⟩ a1 ⟨by omega, by omega⟩ a2 ⟨by omega, by omega⟩ w
    · exact pF25_any a0 ⟨by omega, by omega⟩ a1 ⟨by omega, by omega⟩ a2 ⟨by omega, by omega⟩ w
    · exact pF26_any a0 ⟨by omega, by omega⟩ a1 ⟨by omega, by omega⟩ a2 ⟨by omega, by omega⟩ w
    · exact pF27_any a0 ⟨by omega, by omega⟩ a1 ⟨by omega, by omega⟩ a2 ⟨by omega, by omega⟩ w
    · exact pF28_any a0 ⟨by omega, by omega⟩ a1 ⟨by omega, by omega⟩ a2 ⟨by omega, by omega⟩ w
    · exact pF29_any a0 ⟨by omega, by omega⟩ a1 ⟨by omega, by omega⟩ a2 ⟨by omega, by omega⟩ w
    · exact pF30_any a0 ⟨by omega, by omega⟩ a1 ⟨by omega, by omega⟩ a2 ⟨by omega, by omega⟩ w
    · exact pF31_any a0 ⟨by omega, by omega⟩ a1 ⟨by omega, by omega⟩ a2 ⟨by omega, by omega⟩ w
    · exact pF32_any a0 ⟨by omega, by omega⟩ a1 ⟨by omega, by omega⟩ a2 ⟨by omega, by omega⟩ w
  · rcases (by omega : a1 = 1 ∨ a1 = 2 ∨ a1 = 3 ∨ a1 = 4 ∨ a1 = 5 ∨ a1 = 6 ∨ a1 = 7 ∨ a1 = 8 ∨ a1 = 9 ∨ a1 = 10 ∨ a1 = 11 ∨ a1 = 12 ∨ a1 = 13 ∨ a1 = 14 ∨ a1 = 15 ∨ a1 = 16 ∨ a1 = 17 ∨ a1 = 18 ∨ a1 = 19 ∨ a1 = 20 ∨ a1 = 21 ∨ a1 = 22 ∨ a1 = 23 ∨ a1 = 24 ∨ a1 = 25 ∨ a1 = 26 ∨ a1 = 27 ∨ a1 = 28 ∨ a1 = 29 ∨ a1 = 30 ∨ a1 = 31 ∨ a1 = 32) with s | s | s | s | s | s | s | s | s | s | s | s | s | s | s | s | s | s | s | s | s | s | s | s | s | s | s | s | s | s | s | s
    · exact pM1_any a0 ⟨by omega, by omega⟩ a1 ⟨by omega, by omega⟩ a2 ⟨by omega, by omega⟩ w
    · exact pM2_any a0 ⟨by omega, by omega⟩ a1 ⟨by omega, by omega⟩ a2 ⟨by omega, by omega⟩ w
    · exact pM3_any a0 ⟨by omega, by omega⟩ a1 ⟨by omega, by omega⟩ a2 ⟨by omega, by omega⟩ w
    · exact pM4_any a0 ⟨by omega, by omega⟩ a1 ⟨by omega, by omega⟩ a2 ⟨by omega, by omega⟩ w
    · exact pM5_any a0 ⟨by omega, by omega⟩ a1 ⟨by omega, by omega⟩ a2 ⟨by omega, by omega⟩ w
    · exact pM6_any a0 ⟨by omega, by omega⟩ a1 ⟨by omega, by omega⟩ a2 ⟨by omega, by omega⟩ w
    · exact pM7_any a0 ⟨by omega, by omega⟩ a1 ⟨by omega, by omega⟩ a2 ⟨by omega, by omega⟩ w
    · exact pM8_any a0 ⟨by omega, by omega⟩ a1 ⟨by omega, by omega⟩ a2 ⟨by omega, by omega⟩ w
    · exact pM9_any a0 ⟨by omega, by omega⟩ a1 ⟨by omega, by omega⟩ a2 ⟨by omega, by omega⟩ w
    · exact pM10_any a0 ⟨by omega, by omega⟩ a1 ⟨by omega, by omega⟩ a2 ⟨by omega, by omega⟩ w
    · exact pM11_any a0 ⟨by omega, by omega⟩ a1 ⟨by omega, by omega⟩ a2 ⟨by omega, by omega⟩ w
    · exact pM12_any a0 ⟨by omega, by omega⟩ a1 ⟨by omega, by omega⟩ a2 ⟨by omega, by omega⟩ w
    · exact pM13_any a0 ⟨by omega, by omega⟩ a1 ⟨by omega, by omega⟩ a2 ⟨by omega, by omega⟩ w
    · exact pM14_any a0 ⟨by omega, by omega⟩ a1 ⟨by omega, by omega⟩ a2 ⟨by omega, by omega⟩ w
    · exact pM15_any a0 ⟨by omega, by omega⟩ a1 ⟨by omega, by omega⟩ a2 ⟨by omega, by omega⟩ w
    · exact pM16_any a0 ⟨by omega, by omega⟩ a1 ⟨by omega, by omega⟩ a2 ⟨by omega, by omega⟩ w
    · exact pM17_any a0 ⟨by omega, by omega⟩ a1 ⟨by omega, by omega⟩ a2 ⟨by omega, by omega⟩ w
    · exact pM18_any a0 ⟨by omega, by omega⟩ a1 ⟨by omega, by omega⟩ a2 ⟨by omega, by omega⟩ w
    · exact pM19_any a0 ⟨by omega, by omega⟩ a1 ⟨by omega, by omega⟩ a2 ⟨by omega, by omega⟩ w
    · exact pM20_any a0 ⟨by omega, by omega⟩ a1 ⟨by omega, by omega⟩ a2 ⟨by omega, by omega⟩ w
    · exact pM21_any a0 ⟨by omega, by omega⟩ a1 ⟨by omega, by omega⟩ a2 ⟨by omega, by omega⟩ w
    · exact pM22_any a0 ⟨by omega, by omega⟩ a1 ⟨by omega, by omega⟩ a2 ⟨by omega, by omega⟩ w
    · exact pM23_any a0 ⟨by omega, by omega⟩ a1 ⟨by omega, by omega⟩ a2 ⟨by omega, by omega⟩ w
    · exact pM24_any a0 ⟨by omega, by omega⟩ a1 ⟨by omega, by omega⟩ a2 ⟨by omega, by omega⟩ w
    · exact pM25_any a0 ⟨by omega, by omega⟩ a1 ⟨by omega, by omega⟩ a2 ⟨by omega, by omega⟩ w
    · exact pM26_any a0 ⟨by omega, by omega⟩ a1 ⟨by omega, by omega⟩ a2 ⟨by omega, by omega⟩ w
    · exact pM27_any a0 ⟨by omega, by omega⟩ a1 ⟨by omega, by omega⟩ a2 ⟨by omega, by omega⟩ w
    · exact pM28_any a0 ⟨by omega, by omega⟩ a1 ⟨by omega, by omega⟩ a2 ⟨by omega, by omega⟩ w
    · exact pM29_any a0 ⟨by omega, by omega⟩ a1 ⟨by omega, by omega⟩ a2 ⟨by omega, by omega⟩ w
    · exact pM30_any a0 ⟨by omega, by omega⟩ a1 ⟨by omega, by omega⟩ a2 ⟨by omega, by omega⟩ w
    · exact pM31_any a0 ⟨by omega, by omega⟩ a1 ⟨by omega, by omega⟩ a2 ⟨by omega, by omega⟩ w
    · exact pM32_any a0 ⟨by omega, by omega⟩ a1 ⟨by omega, by omega⟩ a2 ⟨by omega, by omega⟩ w

set_option maxRecDepth 100000 in
theorem contract (H : Type) (enc : TypeId × Value → H) (W : World) (base : Nat) (args : Array Value) (ds gs : List (DataW H)) (before : List MemPlace)
    (hval0 : ∀ (j : Nat) t v, Tryz.f3.params[j]? = some t → args[j]? = some v → Value.okWide Tryz.prog W .any base t v)
    (hW : DataW.Whole enc Tryz.prog Tryz.f3.params.toList Rows.hubFloodsSpec.vars false W args.toList ds gs before) :
    Calls Tryz.prog 3 args W fun e W' => ∃ v, e = .returned v ∧ Rows.hubFloodsSpec.post enc Tryz.prog Tryz.f3 false true false false W args v W' := by
  have hval : ∀ (j : Nat) t v, Tryz.f3.params[j]? = some t → args[j]? = some v → Value.okWide Tryz.prog W .any base t v := hval0
  have hW' := hW
  obtain ⟨p, q, hA0, hV, rfl, hfz, hnd⟩ := hW
  have hA : DataW.TrodAll enc Tryz.prog W 0 (fun _ => true) true Tryz.f3.params.toList args.toList ds p := hA0
  rw [Tryz.params3] at hA hval
  obtain ⟨v0, vs0, d0, ds0, p_0, q0, hargs, rfl, rfl, k0, r0⟩ := trodAll_cons hA
  obtain ⟨v1, vs1, d1, ds1, p_1, q1, rfl, rfl, rfl, k1, r1⟩ := trodAll_cons r0
  obtain ⟨v2, vs2, d2, ds2, p_2, q2, rfl, rfl, rfl, k2, r2⟩ := trodAll_cons r1
  obtain ⟨rfl, rfl, rfl⟩ := trodAll_nil r2
  obtain rfl : args = #[v0, v1, v2] := by cases args; simp_all
  obtain ⟨rfl, rfl⟩ := trodVars_none hV
  have lt0 : ∀ x ∈ p_0, x.block < W.heap.size := by obtain ⟨m, hm⟩ := k0; exact DataW.trod_lt m _ _ _ hm
  have lt1 : ∀ x ∈ p_1, x.block < W.heap.size := by obtain ⟨m, hm⟩ := k1; exact DataW.trod_lt m _ _ _ hm
  have lt2 : ∀ x ∈ p_2, x.block < W.heap.size := by obtain ⟨m, hm⟩ := k2; exact DataW.trod_lt m _ _ _ hm
  obtain ⟨a0, rfl, hh0⟩ := open_int (hval 0 3 v0 rfl rfl)
  obtain ⟨a1, rfl, hh1⟩ := open_int (hval 1 3 v1 rfl rfl)
  obtain ⟨a2, rfl, hh2⟩ := open_int (hval 2 3 v2 rfl rfl)
  clear hA0 hval0
  refine (walk a0 hh0 a1 hh1 a2 hh2 W).mono fun e W' ⟨he, hg⟩ => ?_
  subst he
  have bel := hg.below0
  exact ⟨_, rfl, _, _, _, [], _, [], hW', trodAll_mk1 (shut_bool Tryz.underlying4 _), (trodAll_cons_mk (Below.trod laid_out (by kernel_rfl) (of_decide_eq_true (by kernel_rfl)) k0 bel lt0) (trodAll_cons_mk (Below.trod laid_out (by kernel_rfl) (of_decide_eq_true (by kernel_rfl)) k1 bel lt1) (trodAll_cons_mk (Below.trod laid_out (by kernel_rfl) (of_decide_eq_true (by kernel_rfl)) k2 bel lt2) trodAll_mk0))), rfl, bel.frame _, fun h => by cases h⟩


set_option maxRecDepth 100000 in
theorem lifted (os : Os) (started : os.Started) (H : Type) (enc : TypeId × Value → H) (F : Stop.Interp) :
    ReturnsInHanded {} Tryz.checked os 3 .any ((Rows.OpenSpec.upto Rows.hubFloodsSpec).pre6 enc Tryz.prog Tryz.f3 Rows.hubFloodsUptoRow.domain false) (((Rows.OpenSpec.upto Rows.hubFloodsSpec).at F).post enc Tryz.prog Tryz.f3 false true false false) := by
  refine returnsInHanded_of_cond_sized (C := Tryz.checked) (s := Rows.OpenSpec.upto Rows.hubFloodsSpec) (k := Rows.uptoSmall) rfl own started (by kernel_rfl) Tryz.func3
    (OpenSpec.witness (enc := enc) (C := Tryz.checked) (s := Rows.OpenSpec.upto Rows.hubFloodsSpec) (k := Rows.uptoSmall) rfl false ⟨#[], #[.int .i64 0, .int .i64 0, .int .i64 0], []⟩ 8 (by kernel_rfl) (by kernel_rfl) (by kernel_rfl)
      (x := ([.lit (.int .i64 0), .lit (.int .i64 0), .lit (.int .i64 0)], [], [])) (by kernel_rfl) rfl (by kernel_rfl)) ?_
  intro W base args ds gs before hval hW _ hk hsz _
  exact contract H enc W base args ds gs before hval hW

theorem over : Rows.hubFloodsUptoRow.holds Tryz.pinned (Rows.OpenSpec.upto Rows.hubFloodsSpec) :=
  OpenClaim.holds_of_cond 3 Tryz.f3 rfl rfl rfl rfl rfl rfl rfl ⟨rfl, rfl, rfl, rfl, rfl⟩ rfl rfl rfl rfl rfl j_func Tryz.func3 joined
    (of_decide_eq_true (by kernel_rfl)) (by unfold Func.isWrapper; first | (rw [if_pos (by decide +kernel)]; kernel_rfl) | (rw [if_neg (by decide +kernel)]; exact ⟨rfl, rfl⟩))
    (fun os started H enc _ F => lifted os started H enc F)

theorem proved : Rows.HubFloodsUptoSaid := over
end Go.Proofs.YtlmpmmcefdhgmaaGreat.hubFloods

/-
  It is proved that a nil connection does nothing (wharflaw17.ConnOfNothing). No condition.
-/
import Derived.Test.YtdklpcjipkhenaaGreatRows
import Derived.WalkKit
import Derived.ProofKit
import Derived.OpenShut
import Derived.Below
import Derived.Test.YtdklpcjipkhenaaGreatPaNothing
namespace Go.Proofs.YtdklpcjipkhenaaGreat.connOfNothing
open Go.ChangeShapes Go.WideShapes Go.ChangeAt Go.RowKit
open Go
set_option linter.unusedVariables false
set_option linter.unusedSimpArgs false

theorem own : ownKnob Tryz.prog.godebug = none := by kernel_rfl
theorem laidOut : laidOutB Tryz.prog = true := by kernel_rfl

section
variable {P : Program} {w : World} {r : Reach} {base : Nat} {t : TypeId} {v : Value}
theorem cell_int {k : IntKind} (ht : P.underlying t = some (.int k)) (h : Cell.okWide P w r base t v) : ∃ n, v = .int k n := by
  simp only [Cell.okWide, ht] at h
  cases v <;> simp_all [Cell.ok]
theorem cell_slice {e : TypeId} (ht : P.underlying t = some (.slice e)) (h : Cell.okWide P w r base t v) : ∃ a n c, v = .slice a n c := by
  simp only [Cell.okWide, ht] at h
  cases v <;> simp_all [Cell.ok]
end
theorem seg_cells : Tryz.prog.cellTypes Tryz.prog.depth 40 = some [26, 3, 26, 3, 25, 25, 3, 3, 3, 3, 35] := by kernel_rfl
set_option maxRecDepth 100000 in
theorem open_seg {W : World} {base : Nat} {v : Value} (h : Value.okWide Tryz.prog W .any base 40 v) :
    ∃ (e0 e1 e2 e3 e4 e5 e6 e7 e8 e9 : Int) (a : Option Addr) (n c : Nat), v = .agg #[.int .u32 e0, .int .i64 e1, .int .u32 e2, .int .i64 e3, .int .u32 e4, .int .u32 e5, .int .i64 e6, .int .i64 e7, .int .i64 e8, .int .i64 e9, .slice a n c] := by
  simp only [Value.okWide, Tryz.underlying40] at h
  obtain ⟨cs, rfl, hsz, ts, hts, _, hc⟩ := h
  rw [seg_cells] at hts
  cases hts
  have hsz : cs.size = 11 := by rw [hsz]; kernel_rfl
  obtain ⟨l⟩ := cs
  match l, hsz with
  | [x0, x1, x2, x3, x4, x5, x6, x7, x8, x9, x10], _ =>
    have g : ∀ i v u, [x0, x1, x2, x3, x4, x5, x6, x7, x8, x9, x10][i]? = some v → ([26, 3, 26, 3, 25, 25, 3, 3, 3, 3, 35] : List TypeId)[i % 11]? = some u → Cell.okWide Tryz.prog W .any base u v := by
      intro i v u hv hu
      obtain ⟨u', h1, h2⟩ := hc i v (by show ([x0, x1, x2, x3, x4, x5, x6, x7, x8, x9, x10] : List Value).toArray[i]? = some v; rw [List.getElem?_toArray]; exact hv)
      have h1 : ([26, 3, 26, 3, 25, 25, 3, 3, 3, 3, 35] : List TypeId)[i % 11]? = some u' := h1
      rw [hu] at h1
      cases h1
      exact h2
    obtain ⟨e0, rfl⟩ := cell_int Tryz.underlying26 (g 0 x0 26 rfl rfl)
    obtain ⟨e1, rfl⟩ := cell_int Tryz.underlying3 (g 1 x1 3 rfl rfl)
    obtain ⟨e2, rfl⟩ := cell_int Tryz.underlying26 (g 2 x2 26 rfl rfl)
    obtain ⟨e3, rfl⟩ := cell_int Tryz.underlying3 (g 3 x3 3 rfl rfl)
    obtain ⟨e4, rfl⟩ := cell_int Tryz.underlying25 (g 4 x4 25 rfl rfl)
    obtain ⟨e5, rfl⟩ := cell_int Tryz.underlying25 (g 5 x5 25 rfl rfl)
    obtain ⟨e6, rfl⟩ := cell_int Tryz.underlying3 (g 6 x6 3 rfl rfl)
    obtain ⟨e7, rfl⟩ := cell_int Tryz.underlying3 (g 7 x7 3 rfl rfl)
    obtain ⟨e8, rfl⟩ := cell_int Tryz.underlying3 (g 8 x8 3 rfl rfl)
    obtain ⟨e9, rfl⟩ := cell_int Tryz.underlying3 (g 9 x9 3 rfl rfl)
    obtain ⟨a, n, c, rfl⟩ := cell_slice Tryz.underlying35 (g 10 x10 35 rfl rfl)
    exact ⟨_, _, _, _, _, _, _, _, _, _, _, _, _, rfl⟩
set_option maxRecDepth 100000 in
theorem open_sl {W : World} {base : Nat} {v : Value} (h : Value.okWide Tryz.prog W .any base 35 v) : ∃ a n c, v = .slice a n c := by
  simp only [Value.okWide, Tryz.underlying35] at h
  exact cell_slice Tryz.underlying35 h

theorem walk (e0 e1 e2 e3 e4 e5 e6 e7 e8 e9 : Int) (a : Option Addr) (n c : Nat) (a2 : Option Addr) (n2 c2 : Nat) (m : Int) (w : World) :
    Calls Tryz.prog 5 #[.agg #[.int .u32 e0, .int .i64 e1, .int .u32 e2, .int .i64 e3, .int .u32 e4, .int .u32 e5, .int .i64 e6, .int .i64 e7, .int .i64 e8, .int .i64 e9, .slice a n c], .slice a2 n2 c2, .int .i64 m] w fun e w' => e = .returned (.bool true) ∧ Kp [] w w' :=
  p_any a c a2 c2 (fun i => match i with | 0 => e0 | 1 => e1 | 2 => e2 | 3 => e3 | 4 => e4 | 5 => e5 | 6 => e6 | 7 => e7 | 8 => e8 | 9 => e9 | 10 => n | 11 => n2 | _ => m) (Int.natCast_nonneg n) (Int.natCast_nonneg n2) rfl w

set_option maxRecDepth 100000 in
theorem lifted (os : Os) (started : os.Started) (H : Type) (enc : TypeId × Value → H) :
    ReturnsInHanded {} Tryz.checked os 5 .any (Rows.connOfNothingSpec.pre6 enc Tryz.prog Tryz.f5 Rows.connOfNothingRow.domain false) (Rows.connOfNothingSpec.post enc Tryz.prog Tryz.f5 false true false false) := by
  refine returnsInHanded_of_change (C := Tryz.checked) own started (by kernel_rfl) Tryz.func5
    (ChangeSpec.witness6 (enc := enc) (C := Tryz.checked) false ⟨#[], #[.agg #[.int .u32 0, .int .i64 0, .int .u32 0, .int .i64 0, .int .u32 0, .int .u32 0, .int .i64 0, .int .i64 0, .int .i64 0, .int .i64 0, .slice none 0 0], .slice none 0 0, .int .i64 0], []⟩ 8 (by kernel_rfl) (by kernel_rfl) (by kernel_rfl) (by kernel_rfl)) ?_
  intro W base args ds gs before hval0 hW hcnd _
  have hval : ∀ (j : Nat) t v, Tryz.f5.params[j]? = some t → args[j]? = some v → Value.okWide Tryz.prog W .any base t v := hval0
  have hW' := hW
  obtain ⟨p, q, hA0, hV, rfl, hfz, hnd⟩ := hW
  have hA : DataW.TrodAll enc Tryz.prog W 0 (fun _ => true) true Tryz.f5.params.toList args.toList ds p := hA0
  rw [Tryz.params5] at hA hval
  obtain ⟨v0, vs0, d0, ds0, p0, q0, hargs, rfl, rfl, h0, r0⟩ := trodAll_cons hA
  obtain ⟨v1, vs1, d1, ds1, p1, q1, rfl, rfl, rfl, h1, r1⟩ := trodAll_cons r0
  obtain ⟨v2, vs2, d2, ds2, p2, q2, rfl, rfl, rfl, h2, r2⟩ := trodAll_cons r1
  obtain ⟨rfl, rfl, rfl⟩ := trodAll_nil r2
  obtain rfl : args = #[v0, v1, v2] := by cases args; simp_all
  obtain ⟨rfl, rfl⟩ := trodVars_none hV
  obtain ⟨e0, e1, e2, e3, e4, e5, e6, e7, e8, e9, a, n, c, rfl⟩ := open_seg (hval 0 40 v0 rfl rfl)
  obtain ⟨a2, n2, c2, rfl⟩ := open_sl (hval 1 35 v1 rfl rfl)
  have k0 := h0
  have lt0 : ∀ x ∈ p0, x.block < W.heap.size := by obtain ⟨m, hm⟩ := k0; exact DataW.trod_lt m _ _ _ hm
  have k1 := h1
  have lt1 : ∀ x ∈ p1, x.block < W.heap.size := by obtain ⟨m, hm⟩ := k1; exact DataW.trod_lt m _ _ _ hm
  obtain ⟨m, rfl, rfl, rfl, w2⟩ := open_int Tryz.underlying3 (hval 2 3 v2 rfl rfl) h2
  clear hA0 hval0
  refine (walk e0 e1 e2 e3 e4 e5 e6 e7 e8 e9 a n c a2 n2 c2 m W).mono fun e W' ⟨he, hg⟩ => ?_
  subst he
  have bel := hg.below0
  exact ⟨_, rfl, _, _, _, [], _, [], hW', trodAll_mk1 (shut_bool Tryz.underlying4 _), (trodAll_cons_mk (Below.trod laidOut (by kernel_rfl) (of_decide_eq_true (by kernel_rfl)) k0 bel lt0) (trodAll_cons_mk (Below.trod laidOut (by kernel_rfl) (of_decide_eq_true (by kernel_rfl)) k1 bel lt1) (trodAll_cons_mk (shut_int Tryz.underlying3 w2) trodAll_mk0))), rfl, bel.frame _, fun h => by cases h⟩

theorem over : Rows.connOfNothingRow.holds Tryz.pinned (OpenSpec.ofChange Rows.connOfNothingSpec) :=
  OpenClaim.holds_of_wide 5 Tryz.f5 rfl rfl rfl rfl rfl rfl rfl ⟨rfl, rfl, rfl, rfl, rfl⟩ rfl rfl rfl rfl rfl (by kernel_rfl) Tryz.func5 (by kernel_rfl)
    (of_decide_eq_true (by kernel_rfl)) (by unfold Func.isWrapper; first | (rw [if_pos (by decide +kernel)]; kernel_rfl) | (rw [if_neg (by decide +kernel)]; exact ⟨rfl, rfl⟩))
    (fun os started H enc _ => lifted os started H enc)

theorem proved : Rows.ConnOfNothingSaid :=
  over
end Go.Proofs.YtdklpcjipkhenaaGreat.connOfNothing

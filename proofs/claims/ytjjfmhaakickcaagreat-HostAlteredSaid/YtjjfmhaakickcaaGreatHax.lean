/-
  HostAltered: the place that is changed, by hand: a remainder by a number that is not known.
-/
import Derived.Test.YtjjfmhaakickcaaGreatAlt
import Derived.Test.YtjjfmhaakickcaaGreatSsh
import Derived.Test.YtjjfmhaakickcaaGreatCg
import Derived.Test.YtjjfmhaakickcaaGreatProg
set_option linter.unusedVariables false
set_option linter.unusedSimpArgs false
namespace Go.Proofs.YtjjfmhaakickcaaGreat
open Go

section
variable {P : Program} {ops : Array Oper} {Q : Exit → Act → World → Prop} {o : Oper} {rest : List Oper} {a : Act} {w : World} {v : Value}
theorem stepX (hg : o.guard = none) (hr : (execOp a.eval o).run P w = .ok (.value v) w) (hk : wpList P ops Q rest (a.put o.dst v) w) : wpList P ops Q (o :: rest) a w :=
  wpList_plain hg fun K hK => by unfold Oper.wp; rw [hr]; exact hK _ _ hk
end
noncomputable def Act.at (a : Act) (d : Nat) : Value := a.tmps.getD d undef
theorem Act.at_put (a : Act) {d e : Nat} {v : Value} (h : d < a.tmps.size) : Act.at (a.put (some d) v) e = if d = e then v else Act.at a e := by
  unfold Act.at Act.put
  simp only [Array.getD_eq_getD_getElem?]
  by_cases he : d = e
  · subst he; simp [h]
  · rw [if_neg he, Array.getElem?_setIfInBounds_ne he]
theorem Act.size_put (a : Act) {d : Nat} {v : Value} : (a.put (some d) v).tmps.size = a.tmps.size := by simp [Act.put]
theorem Act.eval_tmp (a : Act) (d : Nat) : a.eval (.tmp d) = Act.at a d := rfl
theorem Act.eval_const (a : Act) (v : Value) : a.eval (.const v) = v := rfl
theorem run_mv {P : Program} {a : Act} {w : World} {x : Operand} {o : Oper} (h : o.op = .move x) : (execOp a.eval o).run P w = .ok (.value (a.eval x)) w := by
  unfold execOp; simp only [h]; rfl
theorem run_as {P : Program} {a : Act} {w : World} {x : Operand} {o : Oper} (h : o.op = .assign x) : (execOp a.eval o).run P w = .ok (.value (a.eval x)) w := by
  unfold execOp; simp only [h]; rfl
def Same (a a' : Act) (L : List Nat) : Prop := a'.tmps.size = a.tmps.size ∧ a'.defers = a.defers ∧ ∀ e, e ∉ L → Act.at a' e = Act.at a e
theorem Same.refl (a : Act) (L : List Nat) : Same a a L := ⟨rfl, rfl, fun _ _ => rfl⟩
theorem Same.put {a b : Act} {L : List Nat} (h : Same a b L) {d : Nat} {v : Value} (hd : d ∈ L) (hl : d < a.tmps.size) : Same a (b.put (some d) v) L :=
  ⟨by rw [Act.size_put, h.1], h.2.1, fun e he => by rw [Act.at_put b (by rw [h.1]; exact hl), if_neg (fun x => he (by subst x; exact hd))]; exact h.2.2 e he⟩
/-- i := at % (long - 1) -/
theorem r16_ok {P : Program} {ops : Array Oper} {o0 o1 o2 o3 o4 : Oper} (he : ops.toList = [o0, o1, o2, o3, o4]) (h0 : o0.op = .move (.tmp 1) ∧ o0.dst = some 69 ∧ o0.guard = none) (h1 : o1.op = .move (.tmp 14) ∧ o1.dst = some 70 ∧ o1.guard = none)
    (h2 : o2.op = .binOp .sub 3 (.tmp 70) (.const (.int .i64 1)) 3 ∧ o2.dst = some 71 ∧ o2.guard = none) (h3 : o3.op = .binOp .rem 3 (.tmp 69) (.tmp 71) 3 ∧ o3.dst = some 72 ∧ o3.guard = none) (h4 : o4.op = .assign (.tmp 72) ∧ o4.dst = some 15 ∧ o4.guard = none)
    {Q : Exit → Act → World → Prop} {a : Act} {w : World} {x y : Int} (hs : a.tmps.size = 134) (e1 : Act.at a 1 = .int .i64 x) (e14 : Act.at a 14 = .int .i64 y) (hy : 2 ≤ y ∧ y ≤ 100000)
    (hk : ∀ a', Same a a' [69, 70, 71, 72, 15] → Act.at a' 15 = .int .i64 (x.tmod (y - 1)) → Q .normal a' w) : (Code.region 16 ops false).wp P Q a w := by
  refine wp_region_list ?_
  rw [he]
  obtain ⟨p0, d0, g0⟩ := h0
  obtain ⟨p1, d1, g1⟩ := h1
  obtain ⟨p2, d2, g2⟩ := h2
  obtain ⟨p3, d3, g3⟩ := h3
  obtain ⟨p4, d4, g4⟩ := h4
  refine stepX g0 (run_mv p0) ?_
  rw [Act.eval_tmp, e1, d0]
  have s0 := (Same.refl a [69, 70, 71, 72, 15]).put (d := 69) (v := .int .i64 x) (by simp) (by omega)
  generalize hb0 : a.put (some 69) (.int .i64 x) = b0 at s0 ⊢
  have e69 : Act.at b0 69 = .int .i64 x := by rw [← hb0, Act.at_put a (by omega), if_pos rfl]
  refine stepX g1 (run_mv p1) ?_
  rw [Act.eval_tmp, s0.2.2 14 (by simp), e14, d1]
  have z0 : b0.tmps.size = 134 := by rw [s0.1]; exact hs
  have s1 := s0.put (d := 70) (v := .int .i64 y) (by simp) (by omega)
  generalize hb1 : b0.put (some 70) (.int .i64 y) = b1 at s1 ⊢
  have e70 : Act.at b1 70 = .int .i64 y := by rw [← hb1, Act.at_put b0 (by omega), if_pos rfl]
  have e69 : Act.at b1 69 = .int .i64 x := by rw [← hb1, Act.at_put b0 (by omega), if_neg (by decide)]; exact e69
  have hw : IntKind.i64.wrap (y - 1) = y - 1 := by rw [wrap_i64']; omega
  refine stepX g2 (v := .int .i64 (y - 1)) ?_ ?_
  · unfold execOp
    simp only [p2]
    simp [Act.eval_tmp, Act.eval_const, e70, eqGuard, binOp, Op.intArith, hw]
  rw [d2]
  have z1 : b1.tmps.size = 134 := by rw [s1.1]; exact hs
  have s2 := s1.put (d := 71) (v := .int .i64 (y - 1)) (by simp) (by omega)
  generalize hb2 : b1.put (some 71) (.int .i64 (y - 1)) = b2 at s2 ⊢
  have e71 : Act.at b2 71 = .int .i64 (y - 1) := by rw [← hb2, Act.at_put b1 (by omega), if_pos rfl]
  have e69 : Act.at b2 69 = .int .i64 x := by rw [← hb2, Act.at_put b1 (by omega), if_neg (by decide)]; exact e69
  have hy0 : ¬ (y - 1 = 0) := by omega
  refine stepX g3 (v := .int .i64 (x.tmod (y - 1))) ?_ ?_
  · unfold execOp
    simp only [p3]
    simp [Act.eval_tmp, e69, e71, eqGuard, binOp, Op.intDiv, hy0]
  rw [d3]
  have z2 : b2.tmps.size = 134 := by rw [s2.1]; exact hs
  have s3 := s2.put (d := 72) (v := .int .i64 (x.tmod (y - 1))) (by simp) (by omega)
  generalize hb3 : b2.put (some 72) (.int .i64 (x.tmod (y - 1))) = b3 at s3 ⊢
  have e72 : Act.at b3 72 = .int .i64 (x.tmod (y - 1)) := by rw [← hb3, Act.at_put b2 (by omega), if_pos rfl]
  have z3 : b3.tmps.size = 134 := by rw [s3.1]; exact hs
  refine stepX g4 (run_as p4) ?_
  rw [Act.eval_tmp, e72, d4]
  have s4 := s3.put (d := 15) (v := .int .i64 (x.tmod (y - 1))) (by simp) (by omega)
  exact wpList_nil (hk _ s4 (by rw [Act.at_put b3 (by omega), if_pos rfl]))
/-- what a remainder may be -/
theorem tmod_rg {x m : Int} (h : 1 ≤ m) : -m < x.tmod m ∧ x.tmod m < m := by
  have h1 := Int.tmod_lt_of_pos x (show 0 < m by omega)
  have h2 := Int.tmod_lt_of_pos (-x) (show 0 < m by omega)
  rw [Int.neg_tmod] at h2
  omega
/-- one byte of a rope is another one -/
theorem RopeOk.set {P : Program} {ρ : Nat → Int} {w w' : World} {p : Pl} {arr : Array Value} {fz : Nat × Nat} {cs cs' : List Ch} {T : TypeId} {row : Bool} (h : RopeOk P ρ w p arr fz cs T row) {j : Nat} {z : Int} (hj : j < (ropeZ ρ cs).length) (hz : ropeZ ρ cs' = (ropeZ ρ cs).set j z)
    (hw : w'.heap[p.blk]? = some (.cells (arr.setIfInBounds (p.sh + j) (.int .u8 z)) T fz)) : RopeOk P ρ w' p (arr.setIfInBounds (p.sh + j) (.int .u8 z)) fz cs' T row := by
  have hl : (ropeZ ρ cs').length = (ropeZ ρ cs).length := by rw [hz, List.length_set]
  refine ⟨hw, by rw [Array.size_setIfInBounds]; exact h.size, by rw [hl]; exact h.le, by rw [hl]; exact h.fix, h.es, h.e1, h.fr, fun i x hx => ?_⟩
  rw [hz, List.getElem?_set] at hx
  have hsz : p.sh + j < arr.size := by rw [h.size]; have := h.le; omega
  split at hx
  · rename_i e
    subst e
    have hx : some z = some x := by first | exact hx | simpa [hj] using hx
    cases hx
    simp [hsz]
  · rename_i e
    rw [Array.getElem?_setIfInBounds_ne (by omega)]
    exact h.cell i x hx
theorem Gm.ropeSet {P : Program} {ρ : Nat → Int} {w0 : Base} {φ : List Pl} {s : St} {w : World} (hg : Gm P ρ w0 φ s w) {id : Nat} {cs cs' : List Ch} {T : TypeId} {row : Bool} {p : Pl} (hid : s.hp.get id = some (.rope cs T row)) (hp : φ[id]? = some p) {j : Nat} {z : Int} (hj : j < (ropeZ ρ cs).length) (hz : ropeZ ρ cs' = (ropeZ ρ cs).set j z) :
    Gm P ρ w0 φ ⟨s.hp.set id (.rope cs' T row), s.nx, s.pc⟩ (w.setCell ⟨p.blk, p.sh + j, none⟩ (.int .u8 z)) := by
  obtain ⟨p', arr, fz, hp', hr⟩ := hg.hp.obj _ _ hid
  rw [hp] at hp'
  cases hp'
  have hlt : p.blk < w.heap.size := (hg.lo id p hp).2
  have hsz : (w.setCell ⟨p.blk, p.sh + j, none⟩ (.int .u8 z)).heap.size = w.heap.size := by simp [World.setCell]
  have hh : (w.setCell ⟨p.blk, p.sh + j, none⟩ (.int .u8 z)).heap[p.blk]? = some (.cells (arr.setIfInBounds (p.sh + j) (.int .u8 z)) T fz) := by
    have h' : w.heap[p.blk] = .cells arr T fz := by have := hr.blk; simpa [Array.getElem?_eq_getElem hlt] using this
    show (w.heap.modify p.blk _)[p.blk]? = _
    rw [Array.getElem?_eq_getElem (by simpa using hlt), Array.getElem_modify_self, h']
    rfl
  have hk : Kp [p.blk] w (w.setCell ⟨p.blk, p.sh + j, none⟩ (.int .u8 z)) := by
    refine ⟨rfl, rfl, rfl, by rw [hsz]; exact Nat.le_refl _, fun k hk hn => ?_⟩
    simp only [List.mem_singleton] at hn
    show (w.heap.modify p.blk _)[k]? = _
    rw [Array.getElem?_modify, if_neg (fun e => hn e.symm)]
  exact hg.upd hid rfl hp hk ⟨p, _, fz, hp, hr.set hj hz hh⟩
end Go.Proofs.YtjjfmhaakickcaaGreat

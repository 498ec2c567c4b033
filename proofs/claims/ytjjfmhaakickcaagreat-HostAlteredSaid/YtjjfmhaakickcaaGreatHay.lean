/-
  HostAltered: the byte that is changed, by hand; the call of bytes that changes it; a whole run.
-/
import Derived.Test.YtjjfmhaakickcaaGreatHax
import Derived.ProofKit
set_option linter.unusedVariables false
set_option linter.unusedSimpArgs false
namespace Go.Proofs.YtjjfmhaakickcaaGreat
open Go

noncomputable def opsC (c : Code) : Array Oper := match c with
  | .region _ o _ => o
  | _ => #[]
noncomputable def thnC (c : Code) : Code := match c with
  | .cond _ a _ => a
  | c => c
noncomputable def cOf (f : Nat) : Code := match Tryz.prog.funcs[f]? with
  | some f => f.body.getD .skip
  | none => .skip
noncomputable def rgtN (n : Nat) (c : Code) : Code := Nat.rec (motive := fun _ => Code) c (fun _ ih => rgtC ih) n
noncomputable def pcsN (n : Nat) (c : Code) : List Code := (List.range n).map fun i => lftC (rgtN i c)
noncomputable def preB : List Code := pcsN 7 (cOf 7)
noncomputable def p7B : Code := lftC (rgtN 7 (cOf 7))
noncomputable def r28 : Code := lftC p7B
noncomputable def ops29 : Array Oper := opsC (thnC (rgtC p7B))
noncomputable def tlB : Code := rgtN 8 (cOf 7)
noncomputable def preL : List Code := pcsN 11 (cOf 3)
noncomputable def ops16 : Array Oper := opsC (lftC (rgtN 11 (cOf 3)))
noncomputable def p12 : Code := lftC (rgtN 12 (cOf 3))
noncomputable def ops17 : Array Oper := opsC (lftC p12)
noncomputable def ops18 : Array Oper := opsC (thnC (rgtC p12))
noncomputable def midL : List Code := (pcsN 16 (cOf 3)).drop 13
noncomputable def ops23 : Array Oper := opsC (lftC (rgtN 16 (cOf 3)))
noncomputable def tlL : Code := rgtN 17 (cOf 3)
theorem bodyB_eq : cOf 7 = seqs preB (.seq (.seq r28 (.cond (.tmp 98) (.region 29 ops29 true) .skip)) tlB) := by kernel_rfl
theorem bodyL_eq : cOf 3 = seqs preL (.seq (.region 16 ops16 false) (.seq (.seq (.region 17 ops17 false) (.cond (.tmp 74) (.region 18 ops18 false) .skip)) (seqs midL (.seq (.region 23 ops23 false) tlL)))) := by kernel_rfl

/-! where a remainder is below nought -/
noncomputable def q16 (i : Nat) : Oper := (ops16[i]?).getD default
theorem ops16_eq : ops16.toList = [q16 0, q16 1, q16 2, q16 3, q16 4] := by kernel_rfl
theorem q16_0 : (q16 0).op = .move (.tmp 1) ∧ (q16 0).dst = some 69 ∧ (q16 0).guard = none := ⟨by kernel_rfl, by kernel_rfl, by kernel_rfl⟩
theorem q16_1 : (q16 1).op = .move (.tmp 14) ∧ (q16 1).dst = some 70 ∧ (q16 1).guard = none := ⟨by kernel_rfl, by kernel_rfl, by kernel_rfl⟩
theorem q16_2 : (q16 2).op = .binOp .sub 3 (.tmp 70) (.const (.int .i64 1)) 3 ∧ (q16 2).dst = some 71 ∧ (q16 2).guard = none := ⟨by kernel_rfl, by kernel_rfl, by kernel_rfl⟩
theorem q16_3 : (q16 3).op = .binOp .rem 3 (.tmp 69) (.tmp 71) 3 ∧ (q16 3).dst = some 72 ∧ (q16 3).guard = none := ⟨by kernel_rfl, by kernel_rfl, by kernel_rfl⟩
theorem q16_4 : (q16 4).op = .assign (.tmp 72) ∧ (q16 4).dst = some 15 ∧ (q16 4).guard = none := ⟨by kernel_rfl, by kernel_rfl, by kernel_rfl⟩
noncomputable def q17 (i : Nat) : Oper := (ops17[i]?).getD default
theorem ops17_eq : ops17.toList = [q17 0, q17 1] := by kernel_rfl
theorem q17_0 : (q17 0).op = .move (.tmp 15) ∧ (q17 0).dst = some 73 ∧ (q17 0).guard = none := ⟨by kernel_rfl, by kernel_rfl, by kernel_rfl⟩
theorem q17_1 : (q17 1).op = .binOp .lss 3 (.tmp 73) (.const (.int .i64 0)) 3 ∧ (q17 1).dst = some 74 ∧ (q17 1).guard = none := ⟨by kernel_rfl, by kernel_rfl, by kernel_rfl⟩
noncomputable def q18 (i : Nat) : Oper := (ops18[i]?).getD default
theorem ops18_eq : ops18.toList = [q18 0, q18 1, q18 2, q18 3, q18 4] := by kernel_rfl
theorem q18_0 : (q18 0).op = .move (.tmp 15) ∧ (q18 0).dst = some 75 ∧ (q18 0).guard = none := ⟨by kernel_rfl, by kernel_rfl, by kernel_rfl⟩
theorem q18_1 : (q18 1).op = .move (.tmp 14) ∧ (q18 1).dst = some 76 ∧ (q18 1).guard = none := ⟨by kernel_rfl, by kernel_rfl, by kernel_rfl⟩
theorem q18_2 : (q18 2).op = .binOp .add 3 (.tmp 75) (.tmp 76) 3 ∧ (q18 2).dst = some 77 ∧ (q18 2).guard = none := ⟨by kernel_rfl, by kernel_rfl, by kernel_rfl⟩
theorem q18_3 : (q18 3).op = .binOp .sub 3 (.tmp 77) (.const (.int .i64 1)) 3 ∧ (q18 3).dst = some 78 ∧ (q18 3).guard = none := ⟨by kernel_rfl, by kernel_rfl, by kernel_rfl⟩
theorem q18_4 : (q18 4).op = .assign (.tmp 78) ∧ (q18 4).dst = some 15 ∧ (q18 4).guard = none := ⟨by kernel_rfl, by kernel_rfl, by kernel_rfl⟩
theorem r17_ok {P : Program} {ops : Array Oper} {o0 o1 : Oper} (he : ops.toList = [o0, o1]) (h0 : o0.op = .move (.tmp 15) ∧ o0.dst = some 73 ∧ o0.guard = none) (h1 : o1.op = .binOp .lss 3 (.tmp 73) (.const (.int .i64 0)) 3 ∧ o1.dst = some 74 ∧ o1.guard = none) {Q : Exit → Act → World → Prop} {a : Act} {w : World} {x : Int} (hs : a.tmps.size = 134) (e15 : Act.at a 15 = .int .i64 x)
    (hk : ∀ a', Same a a' [73, 74] → Act.at a' 74 = .bool (decide (x < 0)) → Q .normal a' w) : (Code.region 17 ops false).wp P Q a w := by
  refine wp_region_list ?_
  rw [he]
  have p0 := h0.1
  have d0 := h0.2.1
  have g0 := h0.2.2
  have p1 := h1.1
  have d1 := h1.2.1
  have g1 := h1.2.2
  refine stepX g0 (run_mv p0) ?_
  rw [Act.eval_tmp, e15, d0]
  have s0 := (Same.refl a [73, 74]).put (d := 73) (v := .int .i64 x) (by simp) (by omega)
  generalize hb0 : a.put (some 73) (.int .i64 x) = b0 at s0 ⊢
  have e73 : Act.at b0 73 = .int .i64 x := by rw [← hb0, Act.at_put a (by omega), if_pos rfl]
  have z0 : b0.tmps.size = 134 := by rw [s0.1]; exact hs
  refine stepX g1 (v := .bool (decide (x < 0))) ?_ ?_
  · unfold execOp
    simp only [p1]
    simp [Act.eval_tmp, Act.eval_const, e73, eqGuard, binOp, Op.intCmp]
  rw [d1]
  exact wpList_nil (hk _ (s0.put (d := 74) (by simp) (by omega)) (by rw [Act.at_put b0 (by omega), if_pos rfl]))
theorem r18_ok {P : Program} {ops : Array Oper} {o0 o1 o2 o3 o4 : Oper} (he : ops.toList = [o0, o1, o2, o3, o4]) (h0 : o0.op = .move (.tmp 15) ∧ o0.dst = some 75 ∧ o0.guard = none) (h1 : o1.op = .move (.tmp 14) ∧ o1.dst = some 76 ∧ o1.guard = none) (h2 : o2.op = .binOp .add 3 (.tmp 75) (.tmp 76) 3 ∧ o2.dst = some 77 ∧ o2.guard = none) (h3 : o3.op = .binOp .sub 3 (.tmp 77) (.const (.int .i64 1)) 3 ∧ o3.dst = some 78 ∧ o3.guard = none) (h4 : o4.op = .assign (.tmp 78) ∧ o4.dst = some 15 ∧ o4.guard = none) {Q : Exit → Act → World → Prop} {a : Act} {w : World} {x y : Int} (hs : a.tmps.size = 134) (e15 : Act.at a 15 = .int .i64 x) (e14 : Act.at a 14 = .int .i64 y) (hy : 2 ≤ y ∧ y ≤ 100000) (hx : -100000 ≤ x ∧ x ≤ 0)
    (hk : ∀ a', Same a a' [75, 76, 77, 78, 15] → Act.at a' 15 = .int .i64 (x + y - 1) → Q .normal a' w) : (Code.region 18 ops false).wp P Q a w := by
  refine wp_region_list ?_
  rw [he]
  have p0 := h0.1
  have d0 := h0.2.1
  have g0 := h0.2.2
  have p1 := h1.1
  have d1 := h1.2.1
  have g1 := h1.2.2
  have p2 := h2.1
  have d2 := h2.2.1
  have g2 := h2.2.2
  have p3 := h3.1
  have d3 := h3.2.1
  have g3 := h3.2.2
  have p4 := h4.1
  have d4 := h4.2.1
  have g4 := h4.2.2
  refine stepX g0 (run_mv p0) ?_
  rw [Act.eval_tmp, e15, d0]
  have s0 := (Same.refl a [75, 76, 77, 78, 15]).put (d := 75) (v := .int .i64 x) (by simp) (by omega)
  generalize hb0 : a.put (some 75) (.int .i64 x) = b0 at s0 ⊢
  have e75 : Act.at b0 75 = .int .i64 x := by rw [← hb0, Act.at_put a (by omega), if_pos rfl]
  have z0 : b0.tmps.size = 134 := by rw [s0.1]; exact hs
  refine stepX g1 (run_mv p1) ?_
  rw [Act.eval_tmp, s0.2.2 14 (by simp), e14, d1]
  have s1 := s0.put (d := 76) (v := .int .i64 y) (by simp) (by omega)
  generalize hb1 : b0.put (some 76) (.int .i64 y) = b1 at s1 ⊢
  have e76 : Act.at b1 76 = .int .i64 y := by rw [← hb1, Act.at_put b0 (by omega), if_pos rfl]
  have e75 : Act.at b1 75 = .int .i64 x := by rw [← hb1, Act.at_put b0 (by omega), if_neg (by decide)]; exact e75
  have z1 : b1.tmps.size = 134 := by rw [s1.1]; exact hs
  have hw : IntKind.i64.wrap (x + y) = x + y := by rw [wrap_i64']; omega
  refine stepX g2 (v := .int .i64 (x + y)) ?_ ?_
  · unfold execOp
    simp only [p2]
    simp [Act.eval_tmp, e75, e76, eqGuard, binOp, Op.intArith, hw]
  rw [d2]
  have s2 := s1.put (d := 77) (v := .int .i64 (x + y)) (by simp) (by omega)
  generalize hb2 : b1.put (some 77) (.int .i64 (x + y)) = b2 at s2 ⊢
  have e77 : Act.at b2 77 = .int .i64 (x + y) := by rw [← hb2, Act.at_put b1 (by omega), if_pos rfl]
  have z2 : b2.tmps.size = 134 := by rw [s2.1]; exact hs
  have hw2 : IntKind.i64.wrap (x + y - 1) = x + y - 1 := by rw [wrap_i64']; omega
  refine stepX g3 (v := .int .i64 (x + y - 1)) ?_ ?_
  · unfold execOp
    simp only [p3]
    simp [Act.eval_tmp, Act.eval_const, e77, eqGuard, binOp, Op.intArith, hw2]
  rw [d3]
  have s3 := s2.put (d := 78) (v := .int .i64 (x + y - 1)) (by simp) (by omega)
  generalize hb3 : b2.put (some 78) (.int .i64 (x + y - 1)) = b3 at s3 ⊢
  have e78 : Act.at b3 78 = .int .i64 (x + y - 1) := by rw [← hb3, Act.at_put b2 (by omega), if_pos rfl]
  have z3 : b3.tmps.size = 134 := by rw [s3.1]; exact hs
  refine stepX g4 (run_as p4) ?_
  rw [Act.eval_tmp, e78, d4]
  have s4 := s3.put (d := 15) (v := .int .i64 (x + y - 1)) (by simp) (by omega)
  exact wpList_nil (hk _ s4 (by rw [Act.at_put b3 (by omega), if_pos rfl]))
theorem Same.trans {a b c : Act} {L M N : List Nat} (h : Same a b L) (k : Same b c M) (hL : ∀ x ∈ L, x ∈ N) (hM : ∀ x ∈ M, x ∈ N) : Same a c N :=
  ⟨k.1.trans h.1, k.2.1.trans h.2.1, fun e he => by rw [k.2.2 e (fun h => he (hM e h)), h.2.2 e (fun h => he (hL e h))]⟩
noncomputable def place (x y : Int) : Int := if x.tmod (y - 1) < 0 then x.tmod (y - 1) + y - 1 else x.tmod (y - 1)
theorem place_rg {x y : Int} (h : 2 ≤ y) : 0 ≤ place x y ∧ place x y < y - 1 := by
  have := tmod_rg (x := x) (m := y - 1) (by omega)
  unfold place
  split <;> omega
/-- i := at % (long - 1), made not negative -/
theorem place_ok {P : Program} {Q : Exit → Act → World → Prop} {k : Code} {a : Act} {w : World} {x y : Int} (hs : a.tmps.size = 134) (e1 : Act.at a 1 = .int .i64 x) (e14 : Act.at a 14 = .int .i64 y) (hy : 2 ≤ y ∧ y ≤ 100000)
    (hk : ∀ a', Same a a' [69, 70, 71, 72, 73, 74, 75, 76, 77, 78, 15] → Act.at a' 15 = .int .i64 (place x y) → k.wp P Q a' w) :
    (Code.seq (.region 16 ops16 false) (.seq (.seq (.region 17 ops17 false) (.cond (.tmp 74) (.region 18 ops18 false) .skip)) k)).wp P Q a w := by
  have hr := tmod_rg (x := x) (m := y - 1) (by omega)
  refine wp_seq (r16_ok ops16_eq q16_0 q16_1 q16_2 q16_3 q16_4 hs e1 e14 hy fun a1 s1 h15 => wp_seq (wp_seq (r17_ok ops17_eq q17_0 q17_1 (s1.1.trans hs) h15 fun a2 s2 h74 => ?_)))
  show (Code.cond (.tmp 74) (.region 18 ops18 false) .skip).wp P _ a2 w
  have s12 : Same a a2 [69, 70, 71, 72, 73, 74, 15] := s1.trans s2 (by decide) (by decide)
  have h15' : Act.at a2 15 = .int .i64 (x.tmod (y - 1)) := (s2.2.2 15 (by decide)).trans h15
  by_cases hn : x.tmod (y - 1) < 0
  · refine wp_cond_true (by rw [Act.eval_tmp, h74, decide_eq_true hn]) (r18_ok ops18_eq q18_0 q18_1 q18_2 q18_3 q18_4 (s12.1.trans hs) h15' ((s12.2.2 14 (by decide)).trans e14) hy (by omega) fun a3 s3 h3 => ?_)
    exact hk a3 (s12.trans s3 (by decide) (by decide)) (by rw [h3]; unfold place; rw [if_pos hn])
  · refine wp_cond_false (by rw [Act.eval_tmp, h74, decide_eq_false hn]) (wp_skip ?_)
    exact hk a2 (s12.trans (Same.refl a2 []) (by decide) (by decide)) (by rw [h15']; unfold place; rw [if_neg hn])

/-! the store -/
noncomputable def q29 (i : Nat) : Oper := (ops29[i]?).getD default
theorem pick29 : pick ops29 [6, 7, 10, 11] = [q29 6, q29 7, q29 10, q29 11] := by kernel_rfl
theorem pick29' : pick ops29 [12] = [q29 12] := by kernel_rfl
theorem q29_6 : (q29 6).op = .indexAddr 22 (.tmp 102) (.tmp 104) ∧ (q29 6).dst = some 105 ∧ (q29 6).guard = none := ⟨by kernel_rfl, by kernel_rfl, by kernel_rfl⟩
theorem q29_7 : (q29 7).op = .load 5 (.tmp 105) ∧ (q29 7).dst = some 106 ∧ (q29 7).guard = none := ⟨by kernel_rfl, by kernel_rfl, by kernel_rfl⟩
theorem q29_10 : (q29 10).op = .binOp .xor 5 (.tmp 106) (.tmp 108) 5 ∧ (q29 10).dst = some 109 ∧ (q29 10).guard = none := ⟨by kernel_rfl, by kernel_rfl, by kernel_rfl⟩
theorem q29_11 : (q29 11).op = .indexAddr 22 (.tmp 99) (.tmp 101) ∧ (q29 11).dst = some 110 ∧ (q29 11).guard = none := ⟨by kernel_rfl, by kernel_rfl, by kernel_rfl⟩
theorem q29_12 : (q29 12).op = .store 5 (.tmp 110) (.tmp 109) ∧ (q29 12).dst = none ∧ (q29 12).guard = none := ⟨by kernel_rfl, by kernel_rfl, by kernel_rfl⟩
noncomputable def plan29 : Plan := [([0, 1, 2, 3, 4, 5, 8, 9, 6, 7, 10, 11], [12], [])]
theorem plan29_ok : (mixB ops29 plan29 && (!plan29.isEmpty && decide (planN plan29 = ops29.size))) = true := by kernel_rfl
section
variable {P : Program} {ops : Array Oper} {C : World → Prop} {N : Act → Prop}
theorem wpQuiet_app : ∀ {l1 l2 : List Oper} {a : Act}, wpQuiet P ops C (fun a' => wpQuiet P ops C N l2 a') l1 a → wpQuiet P ops C N (l1 ++ l2) a
  | [], _, _, h => h
  | o :: l1, l2, a, h => by
    show wpQuiet P ops C N (o :: (l1 ++ l2)) a
    unfold wpQuiet at h ⊢
    split at h
    · rename_i hc
      rw [if_pos hc]
      obtain ⟨v, h1, h2⟩ := h
      exact ⟨v, h1, wpQuiet_app h2⟩
    · rename_i hc
      rw [if_neg hc]
      exact wpQuiet_app h
theorem quiet1 {o : Oper} {rest : List Oper} {a : Act} {v : Value} (hg : o.guard = none) (hr : ∀ w, C w → (execOp a.eval o).run P w = .ok (.value v) w) (hk : wpQuiet P ops C N rest (a.put o.dst v)) : wpQuiet P ops C N (o :: rest) a := by
  unfold wpQuiet
  rw [if_pos (by simp [Region.wanted, hg])]
  exact ⟨v, fun w hw => by unfold Oper.quietAt; rw [hr w hw]; exact ⟨rfl, rfl⟩, hk⟩
end
theorem und22 : Tryz.prog.underlying 22 = some (.slice 5) := by kernel_rfl
theorem size5 : sizeA Tryz.prog 5 = some 1 := by kernel_rfl
theorem run_ix {a : Act} {w : World} {o : Oper} {x y : Nat} {q : Addr} {n c j : Nat} (h : o.op = .indexAddr 22 (.tmp x) (.tmp y)) (hx : Act.at a x = .slice (some q) n c) (hy : Act.at a y = .int .i64 j) (hj : j < n) : (execOp a.eval o).run Tryz.prog w = .ok (.value (.pointer (some (q.add j)))) w := by
  unfold execOp
  simp only [h]
  simp only [Act.eval_tmp, hx, hy, Instr.indexAt, Sem.run_bind, run_underlying und22, Result.andThen_ok]
  simp [asIntOf, run_size size5, hj]
theorem hand29 {ops : Array Oper} {o6 o7 o10 o11 : Oper} (h6 : o6.op = .indexAddr 22 (.tmp 102) (.tmp 104) ∧ o6.dst = some 105 ∧ o6.guard = none) (h7 : o7.op = .load 5 (.tmp 105) ∧ o7.dst = some 106 ∧ o7.guard = none) (h10 : o10.op = .binOp .xor 5 (.tmp 106) (.tmp 108) 5 ∧ o10.dst = some 109 ∧ o10.guard = none) (h11 : o11.op = .indexAddr 22 (.tmp 99) (.tmp 101) ∧ o11.dst = some 110 ∧ o11.guard = none) {C : World → Prop} {N : Act → Prop} {a : Act} {q : Addr} {n c j : Nat} {z b : Int} (hs : a.tmps.size = 112) (e99 : Act.at a 99 = .slice (some q) n c) (e102 : Act.at a 102 = .slice (some q) n c) (e101 : Act.at a 101 = .int .i64 j) (e104 : Act.at a 104 = .int .i64 j) (e108 : Act.at a 108 = .int .u8 b) (hj : j < n)
    (hc : ∀ w, C w → w.cell? (q.add j) = some (.int .u8 z)) (hk : ∀ a', Same a a' [105, 106, 109, 110] → Act.at a' 110 = .pointer (some (q.add j)) → Act.at a' 109 = .int .u8 (bits .xor .u8 z b) → N a') :
    wpQuiet Tryz.prog ops C N [o6, o7, o10, o11] a := by
  have p6 := h6.1
  have d6 := h6.2.1
  have g6 := h6.2.2
  have p7 := h7.1
  have d7 := h7.2.1
  have g7 := h7.2.2
  have p10 := h10.1
  have d10 := h10.2.1
  have g10 := h10.2.2
  have p11 := h11.1
  have d11 := h11.2.1
  have g11 := h11.2.2
  refine quiet1 g6 (fun w _ => run_ix p6 e102 e104 hj) ?_
  rw [d6]
  have s0 := (Same.refl a [105, 106, 109, 110]).put (d := 105) (v := .pointer (some (q.add j))) (by simp) (by omega)
  generalize hb0 : a.put (some 105) (.pointer (some (q.add j))) = b0 at s0 ⊢
  have z0 : b0.tmps.size = 112 := by rw [s0.1]; exact hs
  have e105 : Act.at b0 105 = .pointer (some (q.add j)) := by rw [← hb0, Act.at_put a (by omega), if_pos rfl]
  refine quiet1 g7 (v := .int .u8 z) (fun w hw => ?_) ?_
  · unfold execOp
    simp only [p7]
    simp only [Act.eval_tmp, e105]
    have hu : Tryz.prog.underlying 5 = some (.int .u8) := by kernel_rfl
    simp [Instr.loadAt, Instr.sureAddr, loadVar, hc w hw]
  rw [d7]
  have s1 := s0.put (d := 106) (v := .int .u8 z) (by simp) (by omega)
  generalize hb1 : b0.put (some 106) (.int .u8 z) = b1 at s1 ⊢
  have z1 : b1.tmps.size = 112 := by rw [s1.1]; exact hs
  have e106 : Act.at b1 106 = .int .u8 z := by rw [← hb1, Act.at_put b0 (by omega), if_pos rfl]
  refine quiet1 g10 (v := .int .u8 (bits .xor .u8 z b)) (fun w hw => ?_) ?_
  · unfold execOp
    simp only [p10]
    have h108 : Act.at b1 108 = .int .u8 b := (s1.2.2 108 (by decide)).trans e108
    simp [Act.eval_tmp, e106, h108, eqGuard, binOp, Op.intArith, Op.intBits, bits]
  rw [d10]
  have s2 := s1.put (d := 109) (v := .int .u8 (bits .xor .u8 z b)) (by simp) (by omega)
  generalize hb2 : b1.put (some 109) (.int .u8 (bits .xor .u8 z b)) = b2 at s2 ⊢
  have z2 : b2.tmps.size = 112 := by rw [s2.1]; exact hs
  have e109 : Act.at b2 109 = .int .u8 (bits .xor .u8 z b) := by rw [← hb2, Act.at_put b1 (by omega), if_pos rfl]
  refine quiet1 g11 (fun w _ => run_ix p11 ((s2.2.2 99 (by decide)).trans e99) ((s2.2.2 101 (by decide)).trans e101) hj) ?_
  rw [d11]
  have s3 := s2.put (d := 110) (v := .pointer (some (q.add j))) (by simp) (by omega)
  refine wpQuiet_nil (hk _ s3 (by rw [Act.at_put b2 (by omega), if_pos rfl]) (by rw [Act.at_put b2 (by omega), if_neg (by decide)]; exact e109))
theorem store29 {a : Act} {w : World} {o : Oper} {b i : Nat} {u : Int} {arr : Array Value} {T : TypeId} {fz : Nat × Nat} (h : o.op = .store 5 (.tmp 110) (.tmp 109)) (e110 : Act.at a 110 = .pointer (some ⟨b, i, none⟩)) (e109 : Act.at a 109 = .int .u8 u)
    (hb : w.heap[b]? = some (.cells arr T fz)) (hi : i < arr.size) (hf : ¬ (fz.1 ≤ i ∧ i < fz.2)) : (execOp a.eval o).run Tryz.prog w = .ok .skip (w.setCell ⟨b, i, none⟩ (.int .u8 u)) := by
  have hcell : w.cell? ⟨b, i, none⟩ = some arr[i] := by unfold World.cell?; simp [hb, hi]
  have hfz : w.frozen? ⟨b, i, none⟩ = false := by
    unfold World.frozen?
    simp only [hb]
    simp only [Bool.and_eq_false_iff, decide_eq_false_iff_not]
    omega
  have hst : (store (⟨b, i, none⟩ : Addr) (.int .u8 u)).run Tryz.prog w = .ok () (w.setCell ⟨b, i, none⟩ (.int .u8 u)) := by
    rw [run_store Tryz.prog w _ (.int .u8 u) .plain rfl]
    simp [hcell, hfz]
  have hsc : (storeCells (⟨b, i, none⟩ : Addr) [.int .u8 u]).run Tryz.prog w = .ok () (w.setCell ⟨b, i, none⟩ (.int .u8 u)) := by
    rw [storeCells, Sem.run_bind, add_plain]
    show Result.andThen ((store (⟨b, i + 0, none⟩ : Addr) (.int .u8 u)).run Tryz.prog w) _ = _
    rw [Nat.add_zero, hst]
    rfl
  unfold execOp
  simp only [h]
  simp only [Act.eval_tmp, e110, e109, Instr.storeAt, Instr.sureAddr, Sem.run_bind, Sem.run_pure, Result.andThen_ok, storeVar, run_size size5]
  show Result.andThen ((storeCells (⟨b, i, none⟩ : Addr) [.int .u8 u]).run Tryz.prog w) _ = _
  rw [hsc]
  rfl
end Go.Proofs.YtjjfmhaakickcaaGreat

/-
  HostHolds: the code of its loop, the head of a round by hand.
-/
import Derived.Test.YtoimjmmbppikoaaGreatPlt
import Derived.Test.YtoimjmmbppikoaaGreatSsh
import Derived.Test.YtoimjmmbppikoaaGreatCg
import Derived.Test.YtoimjmmbppikoaaGreatProg
set_option linter.unusedVariables false
set_option linter.unusedSimpArgs false
namespace Go.Proofs.YtoimjmmbppikoaaGreat
open Go

noncomputable def opsC (c : Code) : Array Oper := match c with
  | .region _ o _ => o
  | _ => #[]
noncomputable def bodyF : Code := match Tryz.prog.funcs[3]? with
  | some f => f.body.getD .skip
  | none => .skip
noncomputable def c1 := rgtC bodyF
noncomputable def c2 := rgtC c1
noncomputable def c3 := rgtC c2
noncomputable def c4 := rgtC c3
noncomputable def c5 := rgtC c4
noncomputable def c6 := rgtC c5
noncomputable def c7 := rgtC c6
noncomputable def c8 := rgtC c7
noncomputable def preL : List Code := [lftC bodyF, lftC c1, lftC c2, lftC c3, lftC c4, lftC c5, lftC c6, lftC c7]
noncomputable def ini : Code := lftC (lftC c8)
noncomputable def loopC : Code := innC (innC (rgtC (lftC c8)))
noncomputable def postC : Code := rgtC c8
noncomputable def rd1 : Code := lftC loopC
noncomputable def r11 : Code := lftC rd1
noncomputable def r13 : Code := lftC (innC (lftC (rgtC loopC)))
noncomputable def rd2 : Code := rgtC (innC (lftC (rgtC loopC)))
noncomputable def rd3 : Code := rgtC (rgtC loopC)
noncomputable def ops11 : Array Oper := opsC r11
noncomputable def ops13 : Array Oper := opsC r13
noncomputable def ops14 : Array Oper := opsC rd2
theorem body_eq : bodyF = seqs preL (.seq (.seq ini (.block 0 (.loop loopC))) postC) := by kernel_rfl
theorem loop_eq : loopC = .seq (.seq (.region 11 ops11 false) (.cond (.tmp 49) .skip (.exit 0))) (.seq (.block 1 (.seq (.region 13 ops13 false) (.region 14 ops14 true))) rd3) := by kernel_rfl

section
variable {P : Program} {ops : Array Oper} {Q : Exit → Act → World → Prop} {o : Oper} {rest : List Oper} {a : Act} {w : World} {v : Value}
theorem stepH (hg : o.guard = none) (hr : (execOp a.eval o).run P w = .ok (.value v) w) (hk : wpList P ops Q rest (a.put o.dst v) w) : wpList P ops Q (o :: rest) a w :=
  wpList_plain hg fun K hK => by unfold Oper.wp; rw [hr]; exact hK _ _ hk
end
noncomputable def Act.at (a : Act) (d : Nat) : Value := a.tmps.getD d undef
theorem Act.at_put (a : Act) {d e : Nat} {v : Value} (h : d < a.tmps.size) : Act.at (a.put (some d) v) e = if d = e then v else Act.at a e := by
  unfold Act.at Act.put
  simp only [Array.getD_eq_getD_getElem?]
  by_cases he : d = e
  · subst he; simp [h]
  · rw [if_neg he, Array.getElem?_setIfInBounds_ne he]
theorem Act.size_put (a : Act) {d : Nat} {v : Value} : (a.put (some d) v).tmps.size = a.tmps.size := by simp [Act.put]
theorem Act.eval_tmp (a : Act) (d : Nat) : a.eval (.tmp d) = Act.at a d := rfl
theorem Act.eval_const (a : Act) (v : Value) : a.eval (.const v) = v := rfl

noncomputable def o11 (i : Nat) : Oper := (ops11[i]?).getD default
theorem ops11_eq : ops11.toList = [o11 0, o11 1, o11 2, o11 3] := by kernel_rfl
theorem o11_0 : (o11 0).op = .move (.tmp 10) ∧ (o11 0).dst = some 46 ∧ (o11 0).guard = none := ⟨by kernel_rfl, by kernel_rfl, by kernel_rfl⟩
theorem o11_1 : (o11 1).op = .move (.tmp 0) ∧ (o11 1).dst = some 47 ∧ (o11 1).guard = none := ⟨by kernel_rfl, by kernel_rfl, by kernel_rfl⟩
theorem o11_2 : (o11 2).op = .call { callee := .builtin .len, args := #[.tmp 47], argTypes := #[22] } ∧ (o11 2).dst = some 48 ∧ (o11 2).guard = none := ⟨by kernel_rfl, by kernel_rfl, by kernel_rfl⟩
theorem o11_3 : (o11 3).op = .binOp .lss 3 (.tmp 46) (.tmp 48) 3 ∧ (o11 3).dst = some 49 ∧ (o11 3).guard = none := ⟨by kernel_rfl, by kernel_rfl, by kernel_rfl⟩
noncomputable def o13 (i : Nat) : Oper := (ops13[i]?).getD default
theorem ops13_eq : ops13.toList = [o13 0, o13 1, o13 2, o13 3, o13 4, o13 5, o13 6, o13 7, o13 8] := by kernel_rfl
theorem o13_0 : (o13 0).op = .move (.tmp 8) ∧ (o13 0).dst = some 52 ∧ (o13 0).guard = none := ⟨by kernel_rfl, by kernel_rfl, by kernel_rfl⟩
theorem o13_1 : (o13 1).op = .move (.tmp 0) ∧ (o13 1).dst = some 53 ∧ (o13 1).guard = none := ⟨by kernel_rfl, by kernel_rfl, by kernel_rfl⟩
theorem o13_2 : (o13 2).op = .move (.tmp 10) ∧ (o13 2).dst = some 54 ∧ (o13 2).guard = none := ⟨by kernel_rfl, by kernel_rfl, by kernel_rfl⟩
theorem o13_3 : (o13 3).op = .indexAddr 22 (.tmp 53) (.tmp 54) ∧ (o13 3).dst = some 55 ∧ (o13 3).guard = none := ⟨by kernel_rfl, by kernel_rfl, by kernel_rfl⟩
theorem o13_4 : (o13 4).op = .load 3 (.tmp 55) ∧ (o13 4).dst = some 56 ∧ (o13 4).guard = none := ⟨by kernel_rfl, by kernel_rfl, by kernel_rfl⟩
theorem o13_5 : (o13 5).op = .call { callee := .builtin .min, args := #[.tmp 56, .const (.int .i64 100)], argTypes := #[3, 3] } ∧ (o13 5).dst = some 57 ∧ (o13 5).guard = none := ⟨by kernel_rfl, by kernel_rfl, by kernel_rfl⟩
theorem o13_6 : (o13 6).op = .call { callee := .builtin .max, args := #[.const (.int .i64 0), .tmp 57], argTypes := #[3, 3] } ∧ (o13 6).dst = some 58 ∧ (o13 6).guard = none := ⟨by kernel_rfl, by kernel_rfl, by kernel_rfl⟩
theorem o13_7 : (o13 7).op = .binOp .add 3 (.tmp 52) (.tmp 58) 3 ∧ (o13 7).dst = some 59 ∧ (o13 7).guard = none := ⟨by kernel_rfl, by kernel_rfl, by kernel_rfl⟩
theorem o13_8 : (o13 8).op = .assign (.tmp 59) ∧ (o13 8).dst = some 8 ∧ (o13 8).guard = none := ⟨by kernel_rfl, by kernel_rfl, by kernel_rfl⟩

theorem run_move {a : Act} {w : World} {x : Operand} {o : Oper} (h : o.op = .move x) : (execOp a.eval o).run Tryz.prog w = .ok (.value (a.eval x)) w := by
  unfold execOp; simp only [h]; rfl
theorem run_assign {a : Act} {w : World} {x : Operand} {o : Oper} (h : o.op = .assign x) : (execOp a.eval o).run Tryz.prog w = .ok (.value (a.eval x)) w := by
  unfold execOp; simp only [h]; rfl
/-- the step that a round takes -/
noncomputable def clampZ (x : Int) : Int := if (if (100 : Int) < x then 100 else x) > 0 then (if (100 : Int) < x then 100 else x) else 0
theorem clampZ_rg (x : Int) : 0 ≤ clampZ x ∧ clampZ x ≤ 100 := by
  unfold clampZ
  split <;> split <;> omega
/-- what stays, but for these -/
def Same (a a' : Act) (L : List Nat) : Prop := a'.tmps.size = a.tmps.size ∧ a'.defers = a.defers ∧ ∀ e, e ∉ L → Act.at a' e = Act.at a e
theorem Same.refl (a : Act) (L : List Nat) : Same a a L := ⟨rfl, rfl, fun _ _ => rfl⟩
theorem Same.put {a b : Act} {L : List Nat} (h : Same a b L) {d : Nat} {v : Value} (hd : d ∈ L) (hl : d < a.tmps.size) : Same a (b.put (some d) v) L :=
  ⟨by rw [Act.size_put, h.1], h.2.1, fun e he => by rw [Act.at_put b (by rw [h.1]; exact hl), if_neg (fun x => he (by subst x; exact hd))]; exact h.2.2 e he⟩

theorem r11_ok {ops : Array Oper} {o0 o1 o2 o3 : Oper} (he : ops.toList = [o0, o1, o2, o3]) (h0 : o0.op = .move (.tmp 10) ∧ o0.dst = some 46 ∧ o0.guard = none) (h1 : o1.op = .move (.tmp 0) ∧ o1.dst = some 47 ∧ o1.guard = none)
    (h2 : o2.op = .call { callee := .builtin .len, args := #[.tmp 47], argTypes := #[22] } ∧ o2.dst = some 48 ∧ o2.guard = none) (h3 : o3.op = .binOp .lss 3 (.tmp 46) (.tmp 48) 3 ∧ o3.dst = some 49 ∧ o3.guard = none)
    {Q : Exit → Act → World → Prop} {a : Act} {w : World} {q : Option Addr} {n c : Nat} {i : Int} (hs : a.tmps.size = 103) (e0 : Act.at a 0 = .slice q n c) (e10 : Act.at a 10 = .int .i64 i)
    (hk : ∀ a', Same a a' [46, 47, 48, 49] → Act.at a' 49 = .bool (decide (i < (n : Int))) → Q .normal a' w) : (Code.region 11 ops false).wp Tryz.prog Q a w := by
  refine wp_region_list ?_
  rw [he]
  obtain ⟨p0, d0, g0⟩ := h0
  obtain ⟨p1, d1, g1⟩ := h1
  obtain ⟨p2, d2, g2⟩ := h2
  obtain ⟨p3, d3, g3⟩ := h3
  refine stepH g0 (run_move p0) ?_
  rw [Act.eval_tmp, e10, d0]
  have s0 := (Same.refl a [46, 47, 48, 49]).put (d := 46) (v := .int .i64 i) (by simp) (by omega)
  generalize hb : a.put (some 46) (.int .i64 i) = b0 at s0 ⊢
  have e46 : Act.at b0 46 = .int .i64 i := by rw [← hb, Act.at_put a (by omega), if_pos rfl]
  refine stepH g1 (run_move p1) ?_
  rw [Act.eval_tmp, s0.2.2 0 (by simp), e0, d1]
  have s1 := s0.put (d := 47) (v := .slice q n c) (by simp) (by omega)
  generalize hb1 : b0.put (some 47) (.slice q n c) = b1 at s1 ⊢
  have e47 : Act.at b1 47 = .slice q n c := by rw [← hb1, Act.at_put b0 (by rw [s0.1]; omega), if_pos rfl]
  have e46 : Act.at b1 46 = .int .i64 i := by rw [← hb1, Act.at_put b0 (by rw [s0.1]; omega), if_neg (by decide)]; exact e46
  refine stepH g2 (v := .int .i64 n) ?_ ?_
  · unfold execOp
    simp only [p2]
    simp [resolve, invoke, builtin, Builtin.len_, Act.eval_tmp, e47, goInt]
  rw [d2]
  have s2 := s1.put (d := 48) (v := .int .i64 n) (by simp) (by omega)
  generalize hb2 : b1.put (some 48) (.int .i64 n) = b2 at s2 ⊢
  have e48 : Act.at b2 48 = .int .i64 n := by rw [← hb2, Act.at_put b1 (by rw [s1.1]; omega), if_pos rfl]
  have e46 : Act.at b2 46 = .int .i64 i := by rw [← hb2, Act.at_put b1 (by rw [s1.1]; omega), if_neg (by decide)]; exact e46
  refine stepH g3 (v := .bool (decide (i < (n : Int)))) ?_ ?_
  · unfold execOp
    simp only [p3]
    simp [Act.eval_tmp, e46, e48, eqGuard, binOp, Op.intCmp]
  rw [d3]
  have s3 := s2.put (d := 49) (v := .bool (decide (i < (n : Int)))) (by simp) (by omega)
  exact wpList_nil (hk _ s3 (by rw [Act.at_put b2 (by rw [s2.1]; omega), if_pos rfl]))
theorem r13_ok {ops : Array Oper} {o0 o1 o2 o3 o4 o5 o6 o7 o8 : Oper} (he : ops.toList = [o0, o1, o2, o3, o4, o5, o6, o7, o8]) (h0 : o0.op = .move (.tmp 8) ∧ o0.dst = some 52 ∧ o0.guard = none) (h1 : o1.op = .move (.tmp 0) ∧ o1.dst = some 53 ∧ o1.guard = none) (h2 : o2.op = .move (.tmp 10) ∧ o2.dst = some 54 ∧ o2.guard = none)
    (h3 : o3.op = .indexAddr 22 (.tmp 53) (.tmp 54) ∧ o3.dst = some 55 ∧ o3.guard = none) (h4 : o4.op = .load 3 (.tmp 55) ∧ o4.dst = some 56 ∧ o4.guard = none) (h5 : o5.op = .call { callee := .builtin .min, args := #[.tmp 56, .const (.int .i64 100)], argTypes := #[3, 3] } ∧ o5.dst = some 57 ∧ o5.guard = none)
    (h6 : o6.op = .call { callee := .builtin .max, args := #[.const (.int .i64 0), .tmp 57], argTypes := #[3, 3] } ∧ o6.dst = some 58 ∧ o6.guard = none) (h7 : o7.op = .binOp .add 3 (.tmp 52) (.tmp 58) 3 ∧ o7.dst = some 59 ∧ o7.guard = none) (h8 : o8.op = .assign (.tmp 59) ∧ o8.dst = some 8 ∧ o8.guard = none)
    {Q : Exit → Act → World → Prop} {a : Act} {w : World} {q : Addr} {n c i : Nat} {x now : Int} (hs : a.tmps.size = 103) (e0 : Act.at a 0 = .slice (some q) n c) (e10 : Act.at a 10 = .int .i64 i) (e8 : Act.at a 8 = .int .i64 now) (hi : i < n) (hx : w.cell? (q.add i) = some (.int .i64 x)) (hnow : 0 ≤ now ∧ now ≤ 1000000)
    (hk : ∀ a', Same a a' [8, 52, 53, 54, 55, 56, 57, 58, 59] → Act.at a' 8 = .int .i64 (now + clampZ x) → Q .normal a' w) : (Code.region 13 ops false).wp Tryz.prog Q a w := by
  refine wp_region_list ?_
  rw [he]
  obtain ⟨p0, d0, g0⟩ := h0
  obtain ⟨p1, d1, g1⟩ := h1
  obtain ⟨p2, d2, g2⟩ := h2
  obtain ⟨p3, d3, g3⟩ := h3
  obtain ⟨p4, d4, g4⟩ := h4
  obtain ⟨p5, d5, g5⟩ := h5
  obtain ⟨p6, d6, g6⟩ := h6
  obtain ⟨p7, d7, g7⟩ := h7
  obtain ⟨p8, d8, g8⟩ := h8
  refine stepH g0 (run_move p0) ?_
  rw [Act.eval_tmp, e8, d0]
  have s0 := (Same.refl a [8, 52, 53, 54, 55, 56, 57, 58, 59]).put (d := 52) (v := .int .i64 now) (by simp) (by omega)
  generalize hb0 : a.put (some 52) (.int .i64 now) = b0 at s0 ⊢
  have e52 : Act.at b0 52 = .int .i64 now := by rw [← hb0, Act.at_put a (by omega), if_pos rfl]
  have e0 : Act.at b0 0 = .slice (some q) n c := by rw [s0.2.2 0 (by simp)]; exact e0
  have e10 : Act.at b0 10 = .int .i64 i := by rw [s0.2.2 10 (by simp)]; exact e10
  refine stepH g1 (run_move p1) ?_
  rw [Act.eval_tmp, e0, d1]
  have s1 := s0.put (d := 53) (v := .slice (some q) n c) (by simp) (by omega)
  have z0 : b0.tmps.size = 103 := by rw [s0.1]; exact hs
  generalize hb1 : b0.put (some 53) (.slice (some q) n c) = b1 at s1 ⊢
  have e53 : Act.at b1 53 = .slice (some q) n c := by rw [← hb1, Act.at_put b0 (by omega), if_pos rfl]
  have e52 : Act.at b1 52 = .int .i64 now := by rw [← hb1, Act.at_put b0 (by omega), if_neg (by decide)]; exact e52
  have e10 : Act.at b1 10 = .int .i64 i := by rw [← hb1, Act.at_put b0 (by omega), if_neg (by decide)]; exact e10
  refine stepH g2 (run_move p2) ?_
  rw [Act.eval_tmp, e10, d2]
  have s2 := s1.put (d := 54) (v := .int .i64 i) (by simp) (by omega)
  have z1 : b1.tmps.size = 103 := by rw [s1.1]; exact hs
  generalize hb2 : b1.put (some 54) (.int .i64 i) = b2 at s2 ⊢
  have e54 : Act.at b2 54 = .int .i64 i := by rw [← hb2, Act.at_put b1 (by omega), if_pos rfl]
  have e53 : Act.at b2 53 = .slice (some q) n c := by rw [← hb2, Act.at_put b1 (by omega), if_neg (by decide)]; exact e53
  have e52 : Act.at b2 52 = .int .i64 now := by rw [← hb2, Act.at_put b1 (by omega), if_neg (by decide)]; exact e52
  refine stepH g3 (v := .pointer (some (q.add i))) ?_ ?_
  · unfold execOp
    simp only [p3]
    have hu : Tryz.prog.underlying 22 = some (.slice 3) := by kernel_rfl
    have hz : sizeA Tryz.prog 3 = some 1 := by kernel_rfl
    simp only [Act.eval_tmp, e53, e54, Instr.indexAt, Sem.run_bind, run_underlying hu, Result.andThen_ok]
    simp [asIntOf, run_size hz, hi]
  rw [d3]
  have s3 := s2.put (d := 55) (v := .pointer (some (q.add i))) (by simp) (by omega)
  have z2 : b2.tmps.size = 103 := by rw [s2.1]; exact hs
  generalize hb3 : b2.put (some 55) (.pointer (some (q.add i))) = b3 at s3 ⊢
  have e55 : Act.at b3 55 = .pointer (some (q.add i)) := by rw [← hb3, Act.at_put b2 (by omega), if_pos rfl]
  have e52 : Act.at b3 52 = .int .i64 now := by rw [← hb3, Act.at_put b2 (by omega), if_neg (by decide)]; exact e52
  refine stepH g4 (v := .int .i64 x) ?_ ?_
  · unfold execOp
    simp only [p4]
    simp only [Act.eval_tmp, e55]
    simp [Instr.loadAt, Instr.sureAddr, loadVar, hx]
  rw [d4]
  have s4 := s3.put (d := 56) (v := .int .i64 x) (by simp) (by omega)
  have z3 : b3.tmps.size = 103 := by rw [s3.1]; exact hs
  generalize hb4 : b3.put (some 56) (.int .i64 x) = b4 at s4 ⊢
  have e56 : Act.at b4 56 = .int .i64 x := by rw [← hb4, Act.at_put b3 (by omega), if_pos rfl]
  have e52 : Act.at b4 52 = .int .i64 now := by rw [← hb4, Act.at_put b3 (by omega), if_neg (by decide)]; exact e52
  refine stepH g5 (v := .int .i64 (if (100 : Int) < x then 100 else x)) ?_ ?_
  · unfold execOp
    simp only [p5]
    simp [resolve, invoke, builtin, Builtin.min_, Builtin.min2, Act.eval_tmp, Act.eval_const, e56]
  rw [d5]
  have s5 := s4.put (d := 57) (v := .int .i64 (if (100 : Int) < x then 100 else x)) (by simp) (by omega)
  have z4 : b4.tmps.size = 103 := by rw [s4.1]; exact hs
  generalize hb5 : b4.put (some 57) (.int .i64 (if (100 : Int) < x then 100 else x)) = b5 at s5 ⊢
  have e57 : Act.at b5 57 = .int .i64 (if (100 : Int) < x then 100 else x) := by rw [← hb5, Act.at_put b4 (by omega), if_pos rfl]
  have e52 : Act.at b5 52 = .int .i64 now := by rw [← hb5, Act.at_put b4 (by omega), if_neg (by decide)]; exact e52
  refine stepH g6 (v := .int .i64 (clampZ x)) ?_ ?_
  · unfold execOp
    simp only [p6]
    simp [resolve, invoke, builtin, Builtin.max_, Builtin.max2, Act.eval_tmp, Act.eval_const, e57, clampZ]
  rw [d6]
  have s6 := s5.put (d := 58) (v := .int .i64 (clampZ x)) (by simp) (by omega)
  have z5 : b5.tmps.size = 103 := by rw [s5.1]; exact hs
  generalize hb6 : b5.put (some 58) (.int .i64 (clampZ x)) = b6 at s6 ⊢
  have e58 : Act.at b6 58 = .int .i64 (clampZ x) := by rw [← hb6, Act.at_put b5 (by omega), if_pos rfl]
  have e52 : Act.at b6 52 = .int .i64 now := by rw [← hb6, Act.at_put b5 (by omega), if_neg (by decide)]; exact e52
  have hc := clampZ_rg x
  have hw : IntKind.i64.wrap (now + clampZ x) = now + clampZ x := by rw [wrap_i64']; omega
  refine stepH g7 (v := .int .i64 (now + clampZ x)) ?_ ?_
  · unfold execOp
    simp only [p7]
    simp [Act.eval_tmp, e52, e58, eqGuard, binOp, Op.intArith, hw]
  rw [d7]
  have s7 := s6.put (d := 59) (v := .int .i64 (now + clampZ x)) (by simp) (by omega)
  have z6 : b6.tmps.size = 103 := by rw [s6.1]; exact hs
  generalize hb7 : b6.put (some 59) (.int .i64 (now + clampZ x)) = b7 at s7 ⊢
  have e59 : Act.at b7 59 = .int .i64 (now + clampZ x) := by rw [← hb7, Act.at_put b6 (by omega), if_pos rfl]
  have z7 : b7.tmps.size = 103 := by rw [s7.1]; exact hs
  refine stepH g8 (run_assign p8) ?_
  rw [Act.eval_tmp, e59, d8]
  have s8 := s7.put (d := 8) (v := .int .i64 (now + clampZ x)) (by simp) (by omega)
  exact wpList_nil (hk _ s8 (by rw [Act.at_put b7 (by omega), if_pos rfl]))
end Go.Proofs.YtoimjmmbppikoaaGreat

/-
  (*sock.stream).taken, known ahead where no other socket has the place: a loop over a map of several entries that changes nothing.
-/
import Derived.Test.YtfomfboennjfoaaGreatCg
import Derived.Test.YtfomfboennjfoaaGreatSsqn
import Derived.Laws.IdiomRangeMap
set_option linter.unusedVariables false
set_option linter.unusedSimpArgs false
namespace Go.Proofs.YtfomfboennjfoaaGreat
open Go Go.RowKit

theorem neq_ptr {P : Program} {W : World} {T e n : Nat} (hu : P.underlying T = some (.pointer e)) (hn : sizeA P e = some n) (hn0 : n ≠ 0) {b1 o1 b2 o2 : Nat} {arr1 arr2 : Array Value} {T1 T2 : TypeId} (h1 : W.heap[b1]? = some (.cells arr1 T1 (0, 0))) (h2 : W.heap[b2]? = some (.cells arr2 T2 (0, 0))) :
    (binOp .neq T (.pointer (some ⟨b1, o1, none⟩)) (.pointer (some ⟨b2, o2, none⟩))).run P W = .ok (.bool (!(decide (b1 = b2) && decide (o1 = o2)))) W := by
  rw [binOp_neq (by simp) (by simp) (by simp) (by simp), Sem.run_bind, equal_eq, equalIn_eq 9999 T _ _ hu]
  simp only [eqTab, Sem.run_bind, run_size hn, Result.andThen_ok, ne_eq, hn0, not_false_eq_true, if_true]
  rw [sameAddr_plain h1 h2]
  rfl
theorem heap_alike {w w1 : World} (h : w1.Alike w) (o : Obj) {k : Nat} {x : Obj} (hc : w.heap[k]? = some x) : (w1.alloc o).heap[k]? = some x := by
  have hlt : k < w1.heap.size := by
    rw [h.1]
    rcases Nat.lt_or_ge k w.heap.size with h | h
    · exact h
    · simp [Array.getElem?_eq_none h] at hc
  rw [heap_alloc_old w1 _ hlt, h.1, hc]
/-- a socket that has not the place: another kind, the same one, one that is not bound, one that was accepted, one of another port -/
def NotTk (w : World) (bs os : Nat) (port : Int) (v : Value) : Prop :=
  (∃ T x, v = .iface T x ∧ T ≠ 418) ∨ ∃ bt ot, v = .iface 418 (.pointer (some ⟨bt, ot, none⟩)) ∧
    (∃ arr T, w.heap[bt]? = some (.cells arr T (0, 0))) ∧ ((bt = bs ∧ ot = os) ∨ ∃ b c p, w.cell? ⟨bt, ot + 2, none⟩ = some (.bool b) ∧ w.cell? ⟨bt, ot + 10, none⟩ = some (.bool c) ∧ w.cell? ⟨bt, ot + 4, none⟩ = some (.int .i64 p) ∧ (b = false ∨ c = true ∨ p ≠ port))
theorem cell_alike {w w1 : World} (h : w1.Alike w) (o : Obj) {a : Addr} {v : Value} (hc : w.cell? a = some v) : (w1.alloc o).cell? a = some v := by
  have h1 : w1.cell? a = some v := by
    unfold World.cell? at hc ⊢
    rw [h.1]
    exact hc
  rw [World.cell?_alloc_some _ _ _ (by rw [h1]; rfl)]
  exact h1
theorem choose_tape {P : Program} {n : Nat} {w w' : World} {j : Nat} (h : (choose (.mapNext n)).run P w = .ok j w') : w'.tape = w.tape := by
  simp only [choose, Sem.run, Question.forced] at h
  by_cases hn : n ≤ 1
  · simp only [hn, decide_true, if_true] at h; cases h; rfl
  · simp only [hn, decide_false, Bool.false_eq_true, if_false] at h; cases h; rfl
theorem setObj_tape {P : Program} {r : Nat} {o : Obj} {w w' : World} {u : Unit} (h : (setObj r o).run P w = .ok u w') : w'.tape = w.tape := by
  simp only [setObj, Sem.run] at h
  split at h <;> first | (cases h; rfl) | cases h
/-- a step over a map with several entries left leaves the tape -/
theorem next_tape {P : Program} (w w1 : World) (ty : TypeId) (bm since c0 : Nat) (seen : Array Nat) (es : Array MapEntry) (clock : Nat) (v : Value) (o : Obj) (hb : w.heap[bm]? = some (.map es clock)) (hold : ∀ x ∈ es.toList, x.born < since) (hsc : since ≤ c0)
    (hr : (Instr.next (.pointer (some ⟨w.heap.size, 0, none⟩)) false ty).run P (w.alloc (.mapIter (some bm) since seen c0)) = .ok v (w1.alloc o)) : w1.tape = w.tape := by
  have hlt : bm < w.heap.size := by
    rcases Nat.lt_or_ge bm w.heap.size with h | h
    · exact h
    · simp [Array.getElem?_eq_none h] at hb
  have hb' : (w.alloc (.mapIter (some bm) since seen c0)).heap[bm]? = some (.map es clock) := by rw [heap_alloc_old w _ hlt, hb]
  show (w1.alloc o).tape = (w.alloc (.mapIter (some bm) since seen c0)).tape
  simp only [Instr.next, getObj, Sem.run_bind, Sem.run, heap_alloc_new, hb', Result.andThen, next_test_false seen es since c0 hold hsc, Bool.false_eq_true, if_false] at hr
  split at hr
  · rename_i j w2 hc
    have ht := choose_tape hc
    rw [← ht]
    clear hc ht
    split at hr
    · simp only [Sem.run_bind] at hr
      generalize hs : (setObj w.heap.size _).run P w2 = rs at hr
      cases rs with
      | ok u w3 =>
        have := setObj_tape hs
        simp only [Result.andThen_ok] at hr
        cases hr
        exact this
      | halt _ _ => simp [Result.andThen] at hr
    · cases hr; rfl
    · simp [stuck, Sem.run] at hr
  · cases hr
set_option maxRecDepth 100000 in
theorem taken_any (bs os bw ow bk ok bm clock : Nat) (es : Array MapEntry) (a port : Int) (w : World) (h1 : w.cell? ⟨bw, ow, none⟩ = some (.pointer (some ⟨bk, ok, none⟩))) (h2 : w.cell? ⟨bk, ok + 1, none⟩ = some (.map (some bm)))
    (hb : w.heap[bm]? = some (.map es clock)) (hst1 : ∀ x ∈ es.toList, x.born < clock) (hst2 : (es.toList.map (·.born)).Nodup) (hs : ∃ arr T, w.heap[bs]? = some (.cells arr T (0, 0))) (hv : ∀ x ∈ es.toList, NotTk w bs os port x.val) :
    Calls Tryz.prog 462 #[.pointer (some ⟨bs, os, none⟩), .pointer (some ⟨bw, ow, none⟩), .int .u32 a, .int .i64 port] w fun e w' => e = .returned (.bool false) ∧ Kp [] w w' := by
  have hrg := run_range_map (P := Tryz.prog) w 188 3 202 bm es clock Tryz.underlying188 hb
  have HV := Lib.hid hv
  clear hv
  go_enter Tryz.func462, Tryz.ntmps462
  go_wp2
  go_loopw [] (fun w' => ∃ (w1 : World) (seen : Array Nat), w1.Alike w ∧ w1.tape = w.tape ∧ w' = w1.alloc (.mapIter (some bm) clock seen clock)) (fun w' => (leftOf es (w'.iterSeen w.heap.size)).size)
  case atStart => exact ⟨w, #[], ⟨rfl, rfl, rfl⟩, rfl, rfl⟩
  case round =>
    obtain ⟨w1, seen, hal, htp, rfl⟩ := hrel
    have hsz : w1.heap.size = w.heap.size := by rw [hal.1]
    have hb1 : w1.heap[bm]? = some (.map es clock) := by rw [hal.1]; exact hb
    have law := run_next_map (P := Tryz.prog) w1 0 bm clock clock seen es clock hb1 hst1 (Nat.le_refl _)
    rw [hsz] at law
    rcases law with ⟨h0, hrun⟩ | ⟨e, he, w2, hal2, hrun⟩
    · have hnx : ∀ ty, (Instr.next (.pointer (some ⟨w.heap.size, 0, none⟩)) false ty).run Tryz.prog (w1.alloc (.mapIter (some bm) clock seen clock)) = _ := fun _ => hrun
      go_wp2
      go_ret
      exact ⟨rfl, (show Kp [] w w1 from ⟨hal.2.1, htp, hal.2.2, by rw [hsz]; exact Nat.le_refl _, fun k _ _ => by rw [hal.1]⟩).alloc _⟩
    · have hnx : ∀ ty, (Instr.next (.pointer (some ⟨w.heap.size, 0, none⟩)) false ty).run Tryz.prog (w1.alloc (.mapIter (some bm) clock seen clock)) = _ := fun _ => hrun
      have hsz2 : w2.heap.size = w.heap.size := by rw [hal2.1, hal.1]
      have hb2 : w2.heap[bm]? = some (.map es clock) := by rw [hal2.1]; exact hb1
      have hen := run_entry_map (P := Tryz.prog) w2 bm clock seen es clock e hb2 (mem_left he).1 hst2
      rw [hsz2] at hen
      have hal3 : w2.Alike w := ⟨hal2.1.trans hal.1, hal2.2.1.trans hal.2.1, hal2.2.2.trans hal.2.2⟩
      have htp2 : w2.tape = w.tape := by
        have := next_tape (P := Tryz.prog) w1 w2 0 bm clock clock seen es clock _ _ hb1 hst1 (Nat.le_refl _) (by rw [hsz]; exact hrun)
        rw [this, htp]
      have hnt := HV.out e (mem_left he).1
      have hrel2 : ∃ (w1 : World) (seen' : Array Nat), w1.Alike w ∧ w1.tape = w.tape ∧ w2.alloc (.mapIter (some bm) clock (seen.push e.born) clock) = w1.alloc (.mapIter (some bm) clock seen' clock) := ⟨w2, _, hal3, htp2, rfl⟩
      have hmes : (leftOf es ((w2.alloc (.mapIter (some bm) clock (seen.push e.born) clock)).iterSeen w.heap.size)).size < (leftOf es ((w1.alloc (.mapIter (some bm) clock seen clock)).iterSeen w.heap.size)).size := by
        rw [← hsz2, World.iterSeen_alloc, hsz2, ← hsz, World.iterSeen_alloc]
        exact left_shrinks es seen e he
      rcases hnt with ⟨T, x, hval, hT⟩ | ⟨bt, ot, hval, hnt⟩
      · rw [hval] at hrun hen
        have hta : ∀ W : World, (Instr.typeAssert (.iface T x) 202 418 true).run Tryz.prog W = .ok (.tuple #[.pointer none, .bool false]) W := fun W => by
          simp [Instr.typeAssert, Sem.run_bind, run_underlying Tryz.underlying418, hT]
        go_wp2
        exact ⟨hrel2, hmes⟩
      · rw [hval] at hrun hen
        have hta : ∀ W : World, (Instr.typeAssert (.iface 418 (.pointer (some ⟨bt, ot, none⟩))) 202 418 true).run Tryz.prog W = .ok (.tuple #[.pointer (some ⟨bt, ot, none⟩), .bool true]) W := fun W => by
          simp [Instr.typeAssert, Sem.run_bind, run_underlying Tryz.underlying418]
        obtain ⟨⟨arr2, T2, hbt⟩, hnt⟩ := hnt
        obtain ⟨arr1, T1, hbs⟩ := hs
        have hne : (binOp .neq 418 (.pointer (some ⟨bt, ot, none⟩)) (.pointer (some ⟨bs, os, none⟩))).run Tryz.prog (w2.alloc (.mapIter (some bm) clock (seen.push e.born) clock)) = _ := neq_ptr Tryz.underlying418 (show sizeA Tryz.prog 420 = some 12 by kernel_rfl) (by decide) (heap_alike hal3 _ hbt) (heap_alike hal3 _ hbs)
        by_cases hpt : bt = bs ∧ ot = os
        · obtain ⟨rfl, rfl⟩ := hpt
          simp only [decide_true, Bool.and_self, Bool.not_true] at hne
          go_wp2
          exact ⟨hrel2, hmes⟩
        · have hb0 : (!(decide (bt = bs) && decide (ot = os))) = true := by
            rw [← Bool.decide_and, decide_eq_false hpt]; rfl
          rw [hb0] at hne
          rcases hnt with hh | ⟨b, c, p, c1, c2, c3, hbcp⟩
          · exact absurd hh hpt
          have d1 := cell_alike hal3 (.mapIter (some bm) clock (seen.push e.born) clock) c1
          have d2 := cell_alike hal3 (.mapIter (some bm) clock (seen.push e.born) clock) c2
          have d3 := cell_alike hal3 (.mapIter (some bm) clock (seen.push e.born) clock) c3
          cases b with
          | false =>
            go_wp2
            exact ⟨hrel2, hmes⟩
          | true =>
            cases c with
            | true =>
              go_wp2
              exact ⟨hrel2, hmes⟩
            | false =>
              have hp : p ≠ port := by simpa using hbcp
              have hpe : (p == port) = false := by simpa using hp
              go_wp2
              exact ⟨hrel2, hmes⟩

noncomputable section
/-- a cell of a thing that is no row -/
def celQ (h : Tr AObj) (id off : Nat) : Option AV := match h.get id with
  | some (.cells n c d T false) => Bool.rec (motive := fun _ => Option AV) none (celA c d off) (Nat.blt off n)
  | _ => none
def plainO (h : Tr AObj) (id : Nat) : Bool := match h.get id with
  | some (.cells _ _ _ _ false) => true
  | _ => false
def neP (e : SI) (port : Int) : Bool := match e with
  | .lit n => notF (beqF n port)
  | _ => false
def tkC (b c p : Option AV) (port : Int) : Bool := match b, c, p with
  | some (.bool (.lit b)), some (.bool (.lit c)), some (.int .i64 e) => notF b || (c || neP e port)
  | _, _, _ => false
def entTk (h : Tr AObj) (si so : Nat) (port : Int) (v : AV) : Bool := match v with
  | .iface T (.ptr k q) => Bool.rec (motive := fun _ => Bool) true (plainO h k && ((Nat.beq k si && Nat.beq q so) || tkC (celQ h k (Nat.add q (nat_lit 2))) (celQ h k (Nat.add q (nat_lit 10))) (celQ h k (Nat.add q (nat_lit 4))) port)) (Nat.beq T 418)
  | _ => false
def memTk (x : Nat) (l : List Nat) : Bool := List.rec (motive := fun _ => Bool) false (fun y _ ih => Nat.beq x y || ih) l
def bornTk (clk : Nat) (es : List (AV × AV × Nat)) : Bool := List.rec (motive := fun _ => Bool) true (fun e l ih => Nat.blt e.2.2 clk && (notF (memTk e.2.2 (l.map (·.2.2))) && ih)) es
def allTk (h : Tr AObj) (si so : Nat) (port : Int) (es : List (AV × AV × Nat)) : Bool := List.rec (motive := fun _ => Bool) true (fun e _ ih => entTk h si so port e.2.1 && ih) es
def tkM (h : Tr AObj) (si so : Nat) (port : Int) (o : Option AObj) : Bool := match o with
  | some (.map es clk) => plainO h si && (bornTk clk es && allTk h si so port es)
  | _ => false
def tkQ (l : List AV) (h : Tr AObj) : Bool := match l with
  | [.ptr si so, .ptr wi wo, .int .u32 _, .int .i64 (.lit n)] => match celQ h wi wo with
    | some (.ptr ki ko) => match celQ h ki (Nat.add ko (nat_lit 1)) with
      | some (.map m) => tkM h si so n (h.get m)
      | _ => false
    | _ => false
  | _ => false
def sumTaken : Sums := fun f l s κ alt => Bool.rec (motive := fun _ => R) alt (Bool.rec (motive := fun _ => R) alt (κ (.bool (.lit false)) s) (tkQ l s.hp)) (Nat.beq f 462)
end
theorem memTk_eq (x : Nat) : ∀ l : List Nat, memTk x l = decide (x ∈ l)
  | [] => rfl
  | y :: l => by
    show (Nat.beq x y || memTk x l) = _
    rw [memTk_eq x l, natBeq]
    by_cases h : x = y <;> simp [h]
theorem bornTk_ok {clk : Nat} : ∀ {es : List (AV × AV × Nat)}, bornTk clk es = true → (∀ e ∈ es, e.2.2 < clk) ∧ (es.map (·.2.2)).Nodup
  | [], _ => ⟨fun e h => (by cases h), List.nodup_nil⟩
  | e :: es, h => by
    have h : (Nat.blt e.2.2 clk && (notF (memTk e.2.2 (es.map (·.2.2))) && bornTk clk es)) = true := h
    simp only [Bool.and_eq_true, natBlt, decide_eq_true_eq, notF_eq, Bool.not_eq_true', memTk_eq, decide_eq_false_iff_not] at h
    obtain ⟨i1, i2⟩ := bornTk_ok h.2.2
    refine ⟨fun x hx => ?_, List.nodup_cons.2 ⟨h.2.1, i2⟩⟩
    rcases List.mem_cons.1 hx with rfl | hx
    · exact h.1
    · exact i1 x hx
theorem allTk_ok {h : Tr AObj} {si so : Nat} {port : Int} : ∀ {es : List (AV × AV × Nat)}, allTk h si so port es = true → ∀ e ∈ es, entTk h si so port e.2.1 = true
  | [], _, e, he => by cases he
  | x :: es, hh, e, he => by
    have hh : (entTk h si so port x.2.1 && allTk h si so port es) = true := hh
    rw [Bool.and_eq_true] at hh
    rcases List.mem_cons.1 he with rfl | he
    · exact hh.1
    · exact allTk_ok hh.2 e he
theorem EntOk.bornV {φ : List Pl} {ρ : Nat → Int} {l : List (AV × AV × Nat)} {m : List MapEntry} (h : EntOk φ ρ l m) : (m.map (·.born) = l.map (·.2.2)) ∧ ∀ x ∈ m, ∃ e ∈ l, conc φ ρ e.2.1 = some x.val ∧ e.2.2 = x.born := by
  induction h with
  | nil => exact ⟨rfl, fun x hx => by cases hx⟩
  | cons hk hv _ ih =>
    refine ⟨by rw [List.map_cons, List.map_cons, ih.1], fun x hx => ?_⟩
    rcases List.mem_cons.1 hx with rfl | hx
    · exact ⟨_, List.mem_cons_self, hv, rfl⟩
    · obtain ⟨e, he, h1⟩ := ih.2 x hx
      exact ⟨e, List.mem_cons_of_mem _ he, h1⟩
section
variable {ρ : Nat → Int} {w0 : Base} {φ : List Pl} {s : St} {w : World}
theorem plainO_at (hg : Gm Tryz.prog ρ w0 φ s w) {id : Nat} (h : plainO s.hp id = true) : ∃ p arr T, φ[id]? = some p ∧ p.sh = 0 ∧ w.heap[p.blk]? = some (.cells arr T (0, 0)) := by
  unfold plainO at h
  split at h
  · rename_i n c d T hid
    obtain ⟨p, arr, fz, hp, hc⟩ := hg.hp.obj _ _ hid
    obtain ⟨h1, _, rfl, _⟩ := hc.fix rfl
    exact ⟨p, arr, _, hp, h1, hc.blk⟩
  · cases h
theorem celQ_at (hg : Gm Tryz.prog ρ w0 φ s w) {id off : Nat} {v : AV} (h : celQ s.hp id off = some v) : ∃ p x, φ[id]? = some p ∧ p.sh = 0 ∧ conc φ ρ v = some x ∧ w.cell? ⟨p.blk, off, none⟩ = some x := by
  unfold celQ at h
  split at h
  · rename_i n c d T hid
    cases hb : Nat.blt off n with
    | false => rw [hb] at h; cases h
    | true =>
      rw [hb] at h
      have h : celA c d off = some v := h
      rw [natBlt, decide_eq_true_eq] at hb
      obtain ⟨p, arr, fz, hp, hc⟩ := hg.hp.obj _ _ hid
      obtain ⟨h1, _, rfl, _⟩ := hc.fix rfl
      obtain ⟨v', x, e1, e2, e3, _⟩ := hc.cell off hb
      rw [h] at e1; cases e1
      refine ⟨p, x, hp, h1, e2, ?_⟩
      rw [h1, Nat.zero_add] at e3
      unfold World.cell?
      rw [show (⟨p.blk, off, none⟩ : Addr).block = p.blk from rfl, hc.blk]
      simpa using e3
  · cases h
theorem entTk_ok (hg : Gm Tryz.prog ρ w0 φ s w) {si so : Nat} {ps : Pl} (hps : φ[si]? = some ps) {port : Int} {v : AV} {x : Value} (hx : conc φ ρ v = some x) (h : entTk s.hp si so port v = true) : NotTk w ps.blk so port x := by
  unfold entTk at h
  split at h
  · rename_i T k q
    simp only [conc, Option.map_eq_some_iff] at hx
    obtain ⟨y, ⟨p, hp, rfl⟩, rfl⟩ := hx
    cases hT : Nat.beq T 418 with
    | false =>
      rw [natBeq] at hT
      exact .inl ⟨_, _, rfl, of_decide_eq_false hT⟩
    | true =>
      rw [hT] at h
      rw [natBeq] at hT
      have hT := of_decide_eq_true hT
      subst hT
      have h : (plainO s.hp k && ((Nat.beq k si && Nat.beq q so) || tkC (celQ s.hp k (Nat.add q (nat_lit 2))) (celQ s.hp k (Nat.add q (nat_lit 10))) (celQ s.hp k (Nat.add q (nat_lit 4))) port)) = true := h
      rw [Bool.and_eq_true, Bool.or_eq_true] at h
      obtain ⟨hpl, h⟩ := h
      obtain ⟨p', arr, T', hp', hsh, hblk⟩ := plainO_at hg hpl
      rw [hp] at hp'; cases hp'
      refine .inr ⟨p.blk, q, by rw [hsh, Nat.zero_add], ⟨arr, T', hblk⟩, ?_⟩
      rcases h with h | h
      · simp only [Bool.and_eq_true, natBeq, decide_eq_true_eq] at h
        obtain ⟨rfl, rfl⟩ := h
        rw [hps] at hp; cases hp
        exact .inl ⟨rfl, rfl⟩
      · unfold tkC at h
        split at h
        · rename_i b c e h1 h2 h3
          obtain ⟨p1, x1, q1, _, r1, t1⟩ := celQ_at hg h1
          obtain ⟨p2, x2, q2, _, r2, t2⟩ := celQ_at hg h2
          obtain ⟨p3, x3, q3, _, r3, t3⟩ := celQ_at hg h3
          rw [hp] at q1 q2 q3
          cases q1; cases q2; cases q3
          simp only [conc, Option.some.injEq, SB.ev] at r1 r2 r3
          subst r1; subst r2; subst r3
          refine .inr ⟨b, c, e.ev ρ, t1, t2, t3, ?_⟩
          simp only [Bool.or_eq_true, notF_eq, Bool.not_eq_true'] at h
          rcases h with h | h | h
          · exact .inl h
          · exact .inr (.inl h)
          · refine .inr (.inr ?_)
            unfold neP at h
            split at h
            · rw [notF_eq, beqF_eq, Bool.not_eq_true', decide_eq_false_iff_not] at h
              exact h
            · cases h
        · cases h
  · cases h
end
theorem sumTaken_ok : SumsOk Tryz.prog sumTaken := by
  intro ρ f l s κ alt D h
  unfold sumTaken at h
  rcases brec_cases h with ⟨hf, h1⟩ | ⟨_, h1⟩
  rotate_left
  · exact .inl h1
  rcases brec_cases h1 with ⟨hq, h2⟩ | ⟨_, h2⟩
  rotate_left
  · exact .inl h2
  rw [natBeq] at hf
  have hf := of_decide_eq_true hf
  subst hf
  unfold tkQ at hq
  split at hq
  rotate_left
  · cases hq
  rename_i si so wi wo ea n
  split at hq
  rotate_left
  · cases hq
  rename_i ki ko hc1
  split at hq
  rotate_left
  · cases hq
  rename_i m hc2
  unfold tkM at hq
  split at hq
  rotate_left
  · cases hq
  rename_i es clk hm
  simp only [Bool.and_eq_true] at hq
  obtain ⟨hpl, hbn, hal⟩ := hq
  refine .inr ⟨_, s, h2, .refl _, fun {w0 φ w xs} hρ hxs hg => ?_⟩
  obtain ⟨b1, b2⟩ := bornTk_ok hbn
  obtain ⟨ps, arr, T, p1, p2, p3⟩ := plainO_at hg hpl
  obtain ⟨pw, x1, q1, q2, q3, q4⟩ := celQ_at hg hc1
  obtain ⟨pk, x2, r1, r2, r3, r4⟩ := celQ_at hg hc2
  simp only [conc, Option.map_eq_some_iff] at q3 r3
  obtain ⟨pk', e1, rfl⟩ := q3
  rw [r1] at e1; cases e1
  obtain ⟨pm, e2, rfl⟩ := r3
  obtain ⟨pm', ys, e3, e4, e5⟩ := hg.hp.obj _ _ hm
  rw [e2] at e3; cases e3
  obtain ⟨k1, k2⟩ := e5.bornV
  have hxs' : xs = [.pointer (some ⟨ps.blk, so, none⟩), .pointer (some ⟨pw.blk, wo, none⟩), .int .u32 (ea.ev ρ), .int .i64 n] := by
    simp only [concL, conc, p1, q1, p2, q2, Option.map_some, Option.bind_some, Nat.zero_add, Option.some.injEq] at hxs
    exact hxs.symm
  subst hxs'
  rw [r2, Nat.zero_add] at q4
  refine CallsOr.of (enter_of Tryz.func462 (by kernel_rfl) (by kernel_rfl) _ w) ?_
  refine (taken_any ps.blk so pw.blk wo pk.blk ko pm.blk clk ys (ea.ev ρ) n w q4 r4 e4 (fun x hx => ?_) (by rw [k1]; exact b2) ⟨arr, T, p3⟩ (fun x hx => ?_)).mono fun e' w' ⟨he, hk⟩ => ⟨φ, _, he, List.prefix_refl _, rfl, hg.keeps hk⟩
  · obtain ⟨e, he, _, hb⟩ := k2 x hx
    rw [← hb]; exact b1 e he
  · obtain ⟨e, he, hv, _⟩ := k2 x hx
    exact entTk_ok hg p1 hv (allTk_ok hal e he)
noncomputable def sumsT : Sums := sumOr sumTaken sumsQ
theorem sumsT_ok : SumsOk Tryz.prog sumsT := sumOr_ok sumTaken_ok sumsQ_ok
end Go.Proofs.YtfomfboennjfoaaGreat

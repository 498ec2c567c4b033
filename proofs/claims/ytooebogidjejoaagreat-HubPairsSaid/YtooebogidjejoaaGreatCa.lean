/-
  Memory words: a block known whole, bytes that a slice reads as, what a call leaves alone. No program.
  A region that draws its order, walked in ONE order: quiet operations in blocks, operations with an effect one behind the other. No program.
-/
import Derived.WalkKit
import Derived.WalkSpells
import Derived.WalkLawsBesides
import Derived.RegionTactic
import Derived.ChangeAlike
import Derived.Deep.QuietTactic
import Derived.BigQuiet
import Derived.Lib.Hide
import Derived.Laws.CopyOwn
import Derived.Deep.RegionHeld3
import Derived.Deep.AppendLies
import Derived.Maps.AppendAt
import Derived.Laws.AppendOwnNone
import Derived.Deep.Quiet
import Derived.Deep.DeepMust
set_option linter.unusedVariables false
set_option linter.unusedSimpArgs false
namespace Go.Proofs.YtooebogidjejoaaGreat
open Go.RowKit
def bv (x : UInt8) : Value := .int .u8 (x.toNat : Int)
def Blk (w : World) (b : Nat) (l : List Value) (t : TypeId) : Prop := w.heap[b]? = some (.cells l.toArray t (0, 0))
structure Kp (L : List Nat) (w w' : World) : Prop where
 os : w'.os = w.os
 tape : w'.tape = w.tape
 output : w'.output = w.output
 size : w.heap.size ≤ w'.heap.size
 block : ∀ k, k < w.heap.size → k ∉ L → w'.heap[k]? = w.heap[k]?
theorem Kp.refl (L : List Nat) (w : World) : Kp L w w := ⟨rfl, rfl, rfl, Nat.le_refl _, fun _ _ _ => rfl⟩
theorem Kp.trans' {L L1 L2 : List Nat} {a b c : World} (h : Kp L1 a b) (k : Kp L2 b c) (h1 : ∀ i, i ∈ L1 → i ∈ L ∨ a.heap.size ≤ i) (h2 : ∀ i, i ∈ L2 → i ∈ L ∨ a.heap.size ≤ i) : Kp L a c :=
 ⟨k.os.trans h.os, k.tape.trans h.tape, k.output.trans h.output, Nat.le_trans h.size k.size, fun i hi hn =>
  (k.block i (Nat.lt_of_lt_of_le hi h.size) (fun hm => (h2 i hm).elim hn (by omega))).trans (h.block i hi (fun hm => (h1 i hm).elim hn (by omega)))⟩
theorem Kp.trans {L : List Nat} {a b c : World} (h : Kp L a b) (k : Kp L b c) : Kp L a c := h.trans' k (fun _ h => .inl h) (fun _ h => .inl h)
theorem Kp.mono {L L' : List Nat} {w w' : World} (h : Kp L w w') (hs : ∀ i, i ∈ L → i ∈ L' ∨ w.heap.size ≤ i) : Kp L' w w' :=
 ⟨h.os, h.tape, h.output, h.size, fun k hk hn => h.block k hk (fun hm => (hs k hm).elim hn (by omega))⟩
theorem Kp.drew {L : List Nat} {a w : World} (h : Kp L a w) : Kp L a w.drew := ⟨h.os, h.tape, h.output, h.size, h.block⟩
theorem Kp.drewN {L : List Nat} {a w : World} (h : Kp L a w) (n : Nat) : Kp L a (w.drewN n) := ⟨h.os, h.tape, h.output, h.size, h.block⟩
theorem Kp.alloc {L : List Nat} {a w : World} (h : Kp L a w) (o : Obj) : Kp L a (w.alloc o) :=
 ⟨h.os, h.tape, h.output, Nat.le_trans h.size (by simp), fun k hk hn => (Below.heap_alloc _ _ _ (Nat.lt_of_lt_of_le hk h.size)).trans (h.block k hk hn)⟩
theorem Kp.setCell {L : List Nat} {a w : World} (h : Kp L a w) {p : Addr} (hp : p.block ∈ L ∨ a.heap.size ≤ p.block) (u : Value) : Kp L a (w.setCell p u) :=
 ⟨h.os, h.tape, h.output, Nat.le_trans h.size (by simp [World.setCell]), fun k hk hn =>
  (Below.heap_setCell _ _ _ _ (by rintro rfl; exact hp.elim hn (by omega))).trans (h.block k hk hn)⟩
theorem Kp.setRow {L : List Nat} {a w : World} (h : Kp L a w) {g : Nat} (hp : g ∈ L ∨ a.heap.size ≤ g) (cs : Array Value) : Kp L a (w.setRow g cs) :=
 ⟨h.os, h.tape, h.output, Nat.le_trans h.size (by simp [World.setRow]), fun k hk hn =>
  (setRow_other w g k cs (by rintro rfl; exact hp.elim hn (by omega))).trans (h.block k hk hn)⟩
theorem Kp.grown {L : List Nat} {a w w' : World} {row : Option Nat} (h : Kp L a w) (hg : w.grownBy w' row) (hr : ∀ k, row = some k → k ∈ L ∨ a.heap.size ≤ k) : Kp L a w' :=
 ⟨hg.os.trans h.os, hg.tape.trans h.tape, hg.output.trans h.output, Nat.le_trans h.size hg.size, fun k hk hn =>
  (hg.block k (Nat.lt_of_lt_of_le hk h.size) (fun e => (hr k e.symm).elim hn (by omega))).trans (h.block k hk hn)⟩
theorem Kp.cell {L : List Nat} {w w' : World} (h : Kp L w w') {p : Addr} {v : Value} (hv : w.cell? p = some v) (hn : p.block ∉ L) : w'.cell? p = some v :=
 (World.cell?_of_block (w := w) (h.block p.block (World.block_lt_of_cell? w p hv) hn)).trans hv
theorem Blk.lt {w : World} {b : Nat} {l : List Value} {t : TypeId} (h : Blk w b l t) : b < w.heap.size := (Array.getElem?_eq_some_iff.1 h).1
theorem Kp.blk {L : List Nat} {w w' : World} (h : Kp L w w') {b : Nat} {l : List Value} {t : TypeId} (hb : Blk w b l t) (hn : b ∉ L) : Blk w' b l t :=
 (h.block b hb.lt hn).trans hb
theorem Blk.cell {w : World} {b off : Nat} {l : List Value} {t : TypeId} {v : Value} (h : Blk w b l t) (hv : l[off]? = some v) : w.cell? ⟨b, off, none⟩ = some v := by
 unfold Blk at h
 simp [World.cell?, h, hv]
theorem Blk.frozen {w : World} {b : Nat} {l : List Value} {t : TypeId} (h : Blk w b l t) (off : Nat) : w.frozen? ⟨b, off, none⟩ = false := by
 unfold Blk at h
 simp [World.frozen?, h]
theorem Blk.drew {w : World} {b : Nat} {l : List Value} {t : TypeId} (h : Blk w b l t) : Blk w.drew b l t := h
theorem Blk.drewN {w : World} {b : Nat} {l : List Value} {t : TypeId} (h : Blk w b l t) (n : Nat) : Blk (w.drewN n) b l t := h
theorem Blk.alloc {w : World} {b : Nat} {l : List Value} {t : TypeId} (h : Blk w b l t) (o : Obj) : Blk (w.alloc o) b l t := (Below.heap_alloc w o b h.lt).trans h
theorem Blk.new (w : World) (l : List Value) (t : TypeId) : Blk (w.alloc (.cells l.toArray t)) w.heap.size l t := heap_alloc_new w _
theorem Blk.set {w : World} {b : Nat} {l : List Value} {t : TypeId} (h : Blk w b l t) (off : Nat) (v : Value) : Blk (w.setCell ⟨b, off, none⟩ v) b (l.set off v) t := by
 unfold Blk at h ⊢
 simp [World.setCell, Array.getElem?_modify, h]
theorem Blk.other {w : World} {b : Nat} {l : List Value} {t : TypeId} (h : Blk w b l t) {a : Addr} (hn : a.block ≠ b) (v : Value) : Blk (w.setCell a v) b l t :=
 (Below.heap_setCell w a v b (fun e => hn e.symm)).trans h
def Byt (w : World) (v : Value) (l : List UInt8) : Prop :=
 (∃ p c, v = .slice p 0 c ∧ (p = none → c = 0) ∧ c ≤ maxLen ∧ l = []) ∨ ∃ b off cap, v = .slice (some ⟨b, off, none⟩) l.length cap ∧ l.length ≤ cap ∧ cap ≤ maxLen ∧ ∀ i, i < l.length → w.cell? ⟨b, off + i, none⟩ = some (bv (l.getD i 0))
theorem Byt.cases {w : World} {v : Value} {l : List UInt8} (h : Byt w v l) :
  ∃ p cap, v = .slice p l.length cap ∧ l.length ≤ maxLen ∧ (l = [] ∨ ∃ b off, p = some ⟨b, off, none⟩ ∧ ∀ i, i < l.length → w.cell? ⟨b, off + i, none⟩ = some (bv (l.getD i 0))) := by
 rcases h with ⟨p, c, rfl, _, _, rfl⟩ | ⟨b, off, cap, rfl, hc, hm, hb⟩
 ·exact ⟨p, c, rfl, Nat.zero_le _, .inl rfl⟩
 ·exact ⟨_, cap, rfl, Nat.le_trans hc hm, .inr ⟨b, off, rfl, hb⟩⟩
theorem Byt.drewN {w : World} {v : Value} {l : List UInt8} (h : Byt w v l) (n : Nat) : Byt (w.drewN n) v l := h
def sameTo (a b : List UInt8) : Bool := decide (a = b)
theorem take_next {l1 l2 : List UInt8} {k : Nat} {x y : UInt8} (h1 : k < l1.length) (h2 : k < l2.length) (hx : l1.getD k 0 = x) (hy : l2.getD k 0 = y) (h : l1.take k = l2.take k) (e : ((x.toNat : Int) != (y.toNat : Int)) = false) : l1.take (k + 1) = l2.take (k + 1) := by
 simp only [bne_eq_false_iff_eq] at e
 have e' : x = y := UInt8.toNat_inj.1 (by omega)
 subst e'
 rw [List.take_succ_eq_append_getElem h1, List.take_succ_eq_append_getElem h2, h]
 simp [List.getD, h1, h2] at hx hy
 rw [hx, hy]
theorem sameTo_no {l1 l2 : List UInt8} {k : Nat} {x y : UInt8} (hx : l1.getD k 0 = x) (hy : l2.getD k 0 = y) (e : ((x.toNat : Int) != (y.toNat : Int)) = true) : sameTo l1 l2 = false := by
 unfold sameTo
 rw [decide_eq_false_iff_not]
 rintro rfl
 rw [hx] at hy
 subst hy
 simp at e
theorem sameTo_len {l1 l2 : List UInt8} (h : ¬ l1.length = l2.length) : sameTo l1 l2 = false := by
 unfold sameTo
 rw [decide_eq_false_iff_not]
 rintro rfl
 exact h rfl
theorem sameTo_all {l1 l2 : List UInt8} {k : Nat} (hk : k ≤ l1.length) (hn : ¬ k < l1.length) (hl : l1.length = l2.length) (h : l1.take k = l2.take k) : sameTo l1 l2 = true := by
 unfold sameTo
 rw [decide_eq_true_iff]
 rw [List.take_of_length_le (by omega), List.take_of_length_le (by omega)] at h
 exact h
theorem step_copy_mem {P : Program} {ops : Array Oper} {o : Oper} {a : Act} {w : World} {K : Act → World → Prop} {Q : Exit → Act → World → Prop} {E : Prop} (hgd : o.guard = none) (d s : Operand) (dT sT : TypeId)
  (ho : o.op = .call { callee := .builtin .copy, args := #[d, s], argTypes := #[dT, sT] }) (elem : TypeId) (hu : P.underlying dT = some (.slice elem)) (hsz : (P.info? elem).map (·.size) = some 1)
  (dp sp : Option Addr) (dLen dCap sLen sCap : Nat) (hd : a.eval d = .slice dp dLen dCap) (hs : a.eval s = .slice sp sLen sCap)
  (g off : Nat) (cur : List Value) (t : TypeId) (hg : Blk w g cur t) (cs : List Value) (hn : cs.length = Nat.min sLen dLen)
  (hpos : 0 < cs.length → dp = some ⟨g, off, none⟩ ∧ ∃ b o2, sp = some ⟨b, o2, none⟩ ∧ ∀ j v, cs[j]? = some v → w.cell? ⟨b, o2 + j, none⟩ = some v)
  (hfit : off + cs.length ≤ cur.length) (h1 : ∀ v ∈ cs, v.oneCell' = true)
  (h : ∀ w', Blk w' g (splice cur off cs) t → Kp [g] w w' → K (a.put o.dst (.int .i64 cs.length)) w') :
  if Region.wanted o (yielded ops a.tmps) = true then Oper.wp P o a w K Q else E := by
 have hw : Region.wanted o (yielded ops a.tmps) = true := by simp [Region.wanted, hgd]
 rw [if_pos hw]
 by_cases h0 : cs.length = 0
 ·obtain rfl : cs = [] := List.eq_nil_of_length_eq_zero h0
  have hrun := run_copy_none (P := P) w dT sT o.type elem dp sp dLen dCap sLen sCap hu hsz (by simpa using hn.symm)
  unfold Oper.wp
  simp [execOp, ho, resolve, invoke, builtin, hd, hs, hrun, Result.andThen]
  exact h w (by simpa [splice] using hg) (Kp.refl _ _)
 ·obtain ⟨rfl, b, o2, rfl, hsrc⟩ := hpos (by omega)
  have hrun := run_copy_row (P := P) w dT sT o.type elem g off dLen dCap ⟨b, o2, none⟩ sLen sCap cur.toArray t cs hu hsz hg hn (fun j v hj => by have := hsrc j v hj; have e : (⟨b, o2, none⟩ : Addr).add j = ⟨b, o2 + j, none⟩ := by { unfold Addr.add; split <;> simp_all }; rw [e]; exact this) (by simpa using hfit) h1
  unfold Oper.wp
  simp [execOp, ho, resolve, invoke, builtin, hd, hs, hrun, Result.andThen]
  exact h _ (show _ = _ by simpa [splice] using setRow_heap w g _ _ t _ hg) ((Kp.refl _ _).setRow (.inl (by simp)) _)
theorem bv_one (l : List UInt8) : ∀ v ∈ l.map bv, v.oneCell' = true := by
 intro v hv
 obtain ⟨x, _, rfl⟩ := List.mem_map.1 hv
 rfl
theorem map_splice (L cs : List UInt8) (off : Nat) : splice (L.map bv) off (cs.map bv) = (splice L off cs).map bv := by
 unfold splice; simp
theorem getElem_bv {l : List UInt8} {j : Nat} {v : Value} (h : (l.map bv)[j]? = some v) : j < l.length ∧ v = bv (l.getD j 0) := by
 simp only [List.getElem?_map, Option.map_eq_some_iff] at h
 obtain ⟨x, hx, rfl⟩ := h
 have := (List.getElem?_eq_some_iff.1 hx).1
 exact ⟨this, by simp [List.getD_eq_getElem?_getD, hx]⟩
theorem wpList_copy_mem {P : Program} {ops : Array Oper} {rest : List Oper} {o : Oper} {a : Act} {w : World} {Q : Exit → Act → World → Prop} (hgd : o.guard = none) (d s : Operand) (dT sT : TypeId)
  (ho : o.op = .call { callee := .builtin .copy, args := #[d, s], argTypes := #[dT, sT] }) (elem : TypeId) (hu : P.underlying dT = some (.slice elem)) (hsz : (P.info? elem).map (·.size) = some 1)
  (dp sp : Option Addr) (dLen dCap sLen sCap : Nat) (hd : a.eval d = .slice dp dLen dCap) (hs : a.eval s = .slice sp sLen sCap)
  (g off : Nat) (cur : List UInt8) (t : TypeId) (hg : Blk w g (cur.map bv) t) (cs : List UInt8) (n : Nat) (hcs : cs.length = n) (hn : n = min sLen dLen)
  (hpos : 0 < n → dp = some ⟨g, off, none⟩ ∧ ∃ b o2, sp = some ⟨b, o2, none⟩ ∧ ∀ j, j < n → w.cell? ⟨b, o2 + j, none⟩ = some (bv (cs.getD j 0)))
  (hfit : off + n ≤ cur.length)
  (h : ∀ w', Blk w' g ((splice cur off cs).map bv) t → Kp [g] w w' → wpList P ops Q rest (a.put o.dst (.int .i64 n)) w') : wpList P ops Q (o :: rest) a w := by
 subst hcs
 unfold wpList
 by_cases hw : Region.wanted o (yielded ops a.tmps) = true
 case neg => exact absurd (by simp [Region.wanted, hgd]) hw
 rw [if_pos hw]
 refine .inl ?_
 have := step_copy_mem (P := P) (ops := ops) (o := o) (a := a) (w := w) (K := wpList P ops Q rest) (Q := Q) (E := True) hgd d s dT sT ho elem hu hsz dp sp dLen dCap sLen sCap hd hs g off (cur.map bv) t hg (cs.map bv) (by simpa using hn)
  (fun h0 => by
   obtain ⟨h1, b, o2, h2, h3⟩ := hpos (by simpa using h0)
   exact ⟨h1, b, o2, h2, fun j v hv => by obtain ⟨hj, rfl⟩ := getElem_bv hv; exact h3 j hj⟩) (by simpa using hfit) (bv_one _)
  (fun w' hb' hk' => by rw [map_splice] at hb'; simpa using h w' hb' hk')
 rw [if_pos hw] at this
 exact this
theorem wpList_make_bytes {P : Program} {ops : Array Oper} {rest : List Oper} {o : Oper} {a : Act} {w : World} {Q : Exit → Act → World → Prop}
  (hg : o.guard = none) (l c : Operand) (t : TypeId) (hop : o.op = Op.makeSlice t l c)
  (e : TypeId) (h1 : P.underlying t = some (.slice e)) (h2 : (P.info? e).map (fun i => (i.zero, i.size, i.bytes)) = some (some (.int .u8 0), 1, 1))
  (L C : Int) (n : Nat) (hl : a.eval l = .int .i64 L) (hc : a.eval c = .int .i64 C) (hL : L = (n : Int)) (hC : C = (n : Int)) (hn : n ≤ 140737488355328)
  (hK : ∀ w', Blk w' w.heap.size ((List.replicate n (0 : UInt8)).map bv) e → Kp [] w w' → w'.heap.size = w.heap.size + 1 →
   wpList P ops Q rest (a.put o.dst (.slice (some ⟨w.heap.size, 0, none⟩) n n)) w') :
  wpList P ops Q (o :: rest) a w := by
 refine wpList_plain hg fun K hK' => ?_
 subst hL
 subst hC
 obtain ⟨i, hi, hz, hsz, hby⟩ := info_parts h2
 have hrun := run_make (P := P) w t e i (.int .u8 0) h1 hi hz .i64 .i64 n n (by omega) (by omega) (by rw [hby]; omega) (by omega)
 unfold Oper.wp
 simp [execOp, hop, hl, hc, hrun, Result.andThen, hsz]
 refine hK' _ _ (hK _ ?_ ((Kp.refl _ _).alloc _) (by simp))
 have e1 : madeCells (Value.int .u8 0).cells n = ((List.replicate n (0 : UInt8)).map bv).toArray := by
  unfold madeCells
  apply Array.ext
  ·simp
  ·intro k hk1 hk2
   simp [bv, Value.cells, Nat.mod_one]
 rw [e1]
 exact Blk.new _ _ _
theorem getElem_of_bv {l : List UInt8} {j : Nat} (h : j < l.length) : (l.map bv)[j]? = some (bv (l.getD j 0)) := by
 simp [List.getD_eq_getElem?_getD, h]
theorem own_of_blk {w : World} {g base : Nat} {l : List UInt8} {t : TypeId} (h : Blk w g (l.map bv) t) (hb : base ≤ g) (hm : l.length ≤ maxLen) :
  w.ownsRow base t 1 (.slice (some ⟨g, 0, none⟩) l.length l.length) l.length (l.map bv) :=
 ⟨by simp, .inr ⟨g, l.length, _, rfl, hb, h, Nat.le_refl _, hm, by simp, by rw [Nat.mul_one]; exact List.take_of_length_le (by simp)⟩⟩
theorem splice_fill {A B : List UInt8} {k m : Nat} (hA : A.length = k) (hB : B.length = m - k) (hk : k ≤ m) : splice (splice (List.replicate m (0 : UInt8)) 0 A) k B = A ++ B := by
 unfold splice
 subst hA
 simp only [List.take_zero, Nat.zero_add, List.nil_append, List.drop_replicate, List.take_left', List.length_append, List.length_replicate]
 rw [List.drop_of_length_le (by simp; omega)]
 simp
theorem ret_bool {a b : Bool} (h : a = b) : Ending.returned (.bool a) = .returned (.bool b) := by rw [h]
def OwnB (w : World) (base : Nat) (e : TypeId) (v : Value) (l : List UInt8) : Prop := w.ownsRow base e 1 v l.length (l.map bv)
def ob (v : Value) : List Nat := v.ownBlock.toList
theorem add_lit (b o j : Nat) : (⟨b, o, none⟩ : Addr).add j = ⟨b, o + j, none⟩ := by unfold Addr.add; split <;> simp_all
theorem OwnB.shape {w : World} {base : Nat} {e : TypeId} {v : Value} {l : List UInt8} (h : OwnB w base e v l) : ∃ p c, v = .slice p l.length c ∧ l.length ≤ maxLen ∧ l.length ≤ c := by
 rcases h.2 with ⟨rfl, h0⟩ | ⟨g, cap, cur, rfl, _, _, hc, hm, _⟩
 ·exact ⟨none, 0, by rw [h0], by omega, by omega⟩
 ·exact ⟨_, cap, rfl, Nat.le_trans hc hm, hc⟩
theorem OwnB.byt {w : World} {base : Nat} {e : TypeId} {v : Value} {l : List UInt8} (h : OwnB w base e v l) : Byt w v l := by
 have h0 := h
 rcases h.2 with ⟨rfl, hz⟩ | ⟨g, cap, cur, rfl, _, _, hc, hm, _⟩
 ·exact .inl ⟨none, 0, rfl, fun _ => rfl, Nat.zero_le _, List.eq_nil_of_length_eq_zero hz⟩
 ·refine .inr ⟨g, 0, cap, rfl, hc, hm, fun i hi => ?_⟩
  have := World.ownsRow.cells (g := g) h0 rfl i _ (getElem_of_bv hi)
  rwa [add_lit] at this
theorem OwnB.drewN {w : World} {base : Nat} {e : TypeId} {v : Value} {l : List UInt8} (h : OwnB w base e v l) (n : Nat) : OwnB (w.drewN n) base e v l := h
theorem OwnB.mono {w : World} {base base' : Nat} {e : TypeId} {v : Value} {l : List UInt8} (h : OwnB w base e v l) (hb : base' ≤ base) : OwnB w base' e v l := by
 refine ⟨h.1, ?_⟩
 rcases h.2 with h | ⟨g, cap, cur, h1, h2, h3⟩
 ·exact .inl h
 ·exact .inr ⟨g, cap, cur, h1, Nat.le_trans hb h2, h3⟩
theorem OwnB.lt {w : World} {base : Nat} {e : TypeId} {v : Value} {l : List UInt8} (h : OwnB w base e v l) : ∀ k, k ∈ ob v → base ≤ k ∧ k < w.heap.size := by
 intro k hk
 exact World.ownsRow.lt h k (by simpa [ob] using hk)
theorem OwnB.kp {w w' : World} {base : Nat} {e : TypeId} {v : Value} {l : List UInt8} {L : List Nat} (h : OwnB w base e v l) (k : Kp L w w') (hd : ∀ i, i ∈ ob v → i ∉ L) : OwnB w' base e v l := by
 refine ⟨h.1, ?_⟩
 rcases h.2 with h | ⟨g, cap, cur, h1, h2, h3, h4⟩
 ·exact .inl h
 ·refine .inr ⟨g, cap, cur, h1, h2, ?_, h4⟩
  rw [k.block g (Array.getElem?_eq_some_iff.1 h3).1 (hd g (by rw [h1]; simp [ob, Value.ownBlock]))]
  exact h3
theorem kp_of_grown {w w' : World} {v : Value} (h : w.grownBy w' v.ownBlock) : Kp (ob v) w w' :=
 ⟨h.os, h.tape, h.output, h.size, fun k hk hn => h.block k hk (fun e => hn (by simp [ob, ← e]))⟩
theorem run_append_bytes {P : Program} {w : World} {t ty e : TypeId} {base : Nat} (hu : P.underlying t = some (.slice e)) (hinfo : (P.info? e).map (fun i => (i.zero, i.size, i.bytes)) = some (some (.int .u8 0), 1, 1))
  {v sv : Value} {l l2 : List UInt8} (hown : OwnB w base e v l) (hsrc : Byt w sv l2) (hlen : l.length + l2.length ≤ 140737488355328) (hbase : base ≤ w.heap.size) :
  ∃ p c w', (Builtin.append_ #[t, t] ty #[v, sv]).run P w = .ok (.slice p (l.length + l2.length) c) w' ∧ OwnB w' base e (.slice p (l.length + l2.length) c) (l ++ l2) ∧ Kp (ob v) w w' ∧
   (ob (.slice p (l.length + l2.length) c) = ob v ∨ ob (.slice p (l.length + l2.length) c) = [w.heap.size]) := by
 obtain ⟨i, hi, hz, hsz, hby⟩ := info_parts hinfo
 have h63 : l.length + l2.length ≤ maxLen := by unfold maxLen; omega
 rcases hsrc with ⟨q, k, rfl, hq, _, rfl⟩ | ⟨b, off, cap, rfl, _, _, hc⟩
 ·cases q with
  | none =>
   obtain rfl := hq rfl
   have hrun := run_append_owned_none (P := P) (w := w) base t ty e i 1 hu hi v l.length (l.map bv) hown
   obtain ⟨p, c, rfl, _⟩ := hown.shape
   refine ⟨p, c, w, hrun, by simpa using hown, Kp.refl _ _, .inl (by simp)⟩
  | some a =>
   obtain ⟨v', w', hr, h2, h3, _, h5⟩ := run_append_own_at (P := P) w base t ty e i (.int .u8 0) 1 1 hu hi hz hsz hby rfl (by omega) v l.length (l.map bv) hown a 0 k [] rfl
    (fun j u hj => by simp at hj) (by simp) h63 (by omega) hbase
   have h2' : OwnB w' base e v' (l ++ []) := by unfold OwnB; simpa using h2
   obtain ⟨p, c, rfl, _⟩ := h2'.shape
   simp only [List.length_append] at hr h2' h5
   exact ⟨p, c, w', hr, h2', kp_of_grown h3, by rcases h5 with h5 | h5; exact .inl (by unfold ob; rw [h5]); exact .inr (by unfold ob; rw [h5]; rfl)⟩
 ·obtain ⟨v', w', hr, h2, h3, _, h5⟩ := run_append_own_at (P := P) w base t ty e i (.int .u8 0) 1 1 hu hi hz hsz hby rfl (by omega) v l.length (l.map bv) hown ⟨b, off, none⟩ l2.length cap (l2.map bv) (by simp)
   (fun j u hj => by obtain ⟨hj', rfl⟩ := getElem_bv hj; rw [add_lit]; exact hc j hj') (bv_one _) h63 (by omega) hbase
  have h2' : OwnB w' base e v' (l ++ l2) := by unfold OwnB; simpa using h2
  obtain ⟨p, c, rfl, _⟩ := h2'.shape
  simp only [List.length_append] at hr h2' h5
  exact ⟨p, c, w', hr, h2', kp_of_grown h3, by rcases h5 with h5 | h5 <;> simp [ob, h5]⟩
def obp : Option Addr → List Nat
 | some a => [a.block]
 | none => []
theorem ob_slice (p : Option Addr) (n c : Nat) : ob (.slice p n c) = obp p := by cases p <;> rfl
theorem wpList_append_bytes {P : Program} {ops : Array Oper} {rest : List Oper} {o : Oper} {a : Act} {w : World} {Q : Exit → Act → World → Prop} (hgd : o.guard = none) (s x : Operand) (t : TypeId)
  (ho : o.op = .call { callee := .builtin .append, args := #[s, x], argTypes := #[t, t] }) (e : TypeId)
  (hu : P.underlying t = some (.slice e)) (hinfo : (P.info? e).map (fun i => (i.zero, i.size, i.bytes)) = some (some (.int .u8 0), 1, 1))
  (base : Nat) {p0 p1 : Option Addr} {c0 c1 n m : Nat} (l l2 l3 : List UInt8) (N : Nat) (hs : a.eval s = .slice p0 n c0) (hx : a.eval x = .slice p1 m c1) (hown : OwnB w base e (.slice p0 n c0) l) (hsrc : Byt w (.slice p1 m c1) l2)
  (hl3 : l ++ l2 = l3) (hN : n + m = N) (hlen : N ≤ 140737488355328) (hbase : base ≤ w.heap.size)
  (h : ∀ p c w', OwnB w' base e (.slice p N c) l3 → Kp (obp p0) w w' → (obp p = obp p0 ∨ obp p = [w.heap.size]) →
   wpList P ops Q rest (a.put o.dst (.slice p N c)) w') : wpList P ops Q (o :: rest) a w := by
 refine wpList_plain hgd fun K hK => ?_
 subst hN
 subst hl3
 obtain rfl : n = l.length := by obtain ⟨_, _, h1, _⟩ := hown.shape; simp at h1; exact h1.2.1
 obtain rfl : m = l2.length := by obtain ⟨_, _, h1, _⟩ := hsrc.cases; simp at h1; exact h1.2.1
 obtain ⟨p, c, w', hr, h2, h3, h4⟩ := run_append_bytes (P := P) (ty := o.type) hu hinfo hown hsrc hlen hbase
 simp only [ob_slice] at h3 h4
 unfold Oper.wp execOp
 simp only [ho, resolve, invoke, builtin, Sem.run_bind, Sem.run_pure, Result.andThen_ok, List.map_toArray, List.map_cons, List.map_nil, hs, hx, hr]
 exact hK _ _ (h p c w' h2 h3 h4)
theorem wpList_append_row {P : Program} {ops : Array Oper} {rest : List Oper} {o : Oper} {a : Act} {w : World} {Q : Exit → Act → World → Prop} (hgd : o.guard = none) (s x : Operand) (t : TypeId)
  (ho : o.op = .call { callee := .builtin .append, args := #[s, x], argTypes := #[t, t] }) (e : TypeId)
  (hu : P.underlying t = some (.slice e)) {z : Value} {size bytes : Nat} (hinfo : (P.info? e).map (fun i => (i.zero, i.size, i.bytes)) = some (some z, size, bytes)) (hzs : z.cells.size = size) (hsz : 0 < size)
  (base : Nat) {p0 : Option Addr} {c0 n m g c1 : Nat} (xs news : List Value) (t' : TypeId) (N : Nat) (hs : a.eval s = .slice p0 n c0) (hx : a.eval x = .slice (some ⟨g, 0, none⟩) m c1) (hown : w.ownsRow base e size (.slice p0 n c0) n xs)
  (hsrc : Blk w g news t') (hl : news.length = m * size) (h1 : ∀ u ∈ news, u.oneCell' = true) (hN : n + m = N) (hlen : N * bytes ≤ 140737488355328) (hmx : N ≤ maxLen) (hbase : base ≤ w.heap.size)
  (h : ∀ p c w', w'.ownsRow base e size (.slice p N c) N (xs ++ news) → Kp (obp p0) w w' → (obp p = obp p0 ∨ obp p = [w.heap.size]) →
   wpList P ops Q rest (a.put o.dst (.slice p N c)) w') : wpList P ops Q (o :: rest) a w := by
 refine wpList_plain hgd fun K hK => ?_
 subst hN
 obtain ⟨i, hi, hz, hsz', hby⟩ := info_parts hinfo
 obtain ⟨v', w', hr, h2, h3, _, h5⟩ := run_append_own_at (P := P) w base t o.type e i z size bytes hu hi hz hsz' hby hzs hsz (.slice p0 n c0) n xs hown ⟨g, 0, none⟩ m c1 news hl
  (fun j u hj => by rw [add_lit, Nat.zero_add]; exact hsrc.cell hj) h1 hmx hlen hbase
 have hsh : ∃ p c, v' = .slice p (n + m) c := by
  rcases h2.2 with ⟨rfl, h0⟩ | ⟨g', cap, cur, rfl, _⟩
  ·exact ⟨none, 0, by rw [h0]⟩
  ·exact ⟨_, _, rfl⟩
 obtain ⟨p, c, rfl⟩ := hsh
 have h5' : obp p = obp p0 ∨ obp p = [w.heap.size] := by
  rw [← ob_slice p (n + m) c, ← ob_slice p0 n c0]
  rcases h5 with h5 | h5 <;> simp [ob, h5]
 have h3' : Kp (obp p0) w w' := by rw [← ob_slice p0 n c0]; exact kp_of_grown h3
 unfold Oper.wp execOp
 simp only [ho, resolve, invoke, builtin, Sem.run_bind, Sem.run_pure, Result.andThen_ok, List.map_toArray, List.map_cons, List.map_nil, hs, hx, hr]
 exact hK _ _ (h p c w' h2 h3' h5')
theorem cell_alloc {w : World} {p : Addr} {v : Value} (h : w.cell? p = some v) (o : Obj) : (w.alloc o).cell? p = some v := by
 exact (World.cell?_of_block (w := w) (Below.heap_alloc w o p.block (World.block_lt_of_cell? w p h))).trans h
theorem row_kp {w w' : World} {base : Nat} {e : TypeId} {size n : Nat} {v : Value} {xs : List Value} {L : List Nat} (h : w.ownsRow base e size v n xs) (k : Kp L w w') (hd : ∀ i, i ∈ ob v → i ∉ L) : w'.ownsRow base e size v n xs := by
 refine ⟨h.1, ?_⟩
 rcases h.2 with h | ⟨g, cap, cur, h1, h2, h3, h4⟩
 ·exact .inl h
 ·refine .inr ⟨g, cap, cur, h1, h2, ?_, h4⟩
  rw [k.block g (Array.getElem?_eq_some_iff.1 h3).1 (hd g (by rw [h1]; simp [ob, Value.ownBlock]))]
  exact h3
theorem row_shape {w : World} {base : Nat} {e : TypeId} {size n : Nat} {v : Value} {xs : List Value} (h : w.ownsRow base e size v n xs) : ∃ p c, v = .slice p n c := by
 rcases h.2 with ⟨rfl, h0⟩ | ⟨g, cap, cur, rfl, _⟩
 ·exact ⟨none, 0, by rw [h0]⟩
 ·exact ⟨_, _, rfl⟩
theorem row_lt {w : World} {base : Nat} {e : TypeId} {size n : Nat} {v : Value} {xs : List Value} (h : w.ownsRow base e size v n xs) : ∀ k, k ∈ ob v → base ≤ k ∧ k < w.heap.size :=
 fun k hk => World.ownsRow.lt h k (by simpa [ob] using hk)
theorem row_ne {w : World} {base base' : Nat} {e e' : TypeId} {size size' n n' : Nat} {v v' : Value} {xs xs' : List Value} (h : w.ownsRow base e size v n xs) (h' : w.ownsRow base' e' size' v' n' xs') (he : e ≠ e') : ∀ i, i ∈ ob v → i ∉ ob v' := by
 intro i hi hi'
 rcases h.2 with ⟨rfl, _⟩ | ⟨g, cap, cur, rfl, _, h3, _⟩
 ·simp [ob, Value.ownBlock] at hi
 ·rcases h'.2 with ⟨rfl, _⟩ | ⟨g', cap', cur', rfl, _, h3', _⟩
  ·simp [ob, Value.ownBlock] at hi'
  ·simp [ob, Value.ownBlock] at hi hi'
   subst hi; subst hi'
   rw [h3] at h3'
   simp at h3'
   exact he h3'.2
theorem OwnB.cap {w : World} {base : Nat} {e : TypeId} {p : Option Addr} {n c : Nat} {l : List UInt8} (h : OwnB w base e (.slice p n c) l) : n = l.length ∧ n ≤ c ∧ n ≤ maxLen := by
 obtain ⟨_, _, h1, h2, h3⟩ := h.shape
 simp only [Value.slice.injEq] at h1
 obtain ⟨rfl, rfl, rfl⟩ := h1
 exact ⟨rfl, h3, h2⟩
theorem OwnB.obp_le {w : World} {base : Nat} {e : TypeId} {p : Option Addr} {n c : Nat} {l : List UInt8} (h : OwnB w base e (.slice p n c) l) : ∀ i, i ∈ obp p → base ≤ i :=
 fun i hi => (h.lt i (by rw [ob_slice]; exact hi)).1
theorem OwnB.take {w : World} {base : Nat} {e : TypeId} {p : Option Addr} {n c : Nat} {l : List UInt8} (h : OwnB w base e (.slice p n c) l) {k : Nat} (hk : k ≤ n) : OwnB w base e (.slice p k c) (l.take k) := by
 have hn := h.cap.1
 have e1 : (l.take k).length = k := by simp; omega
 unfold OwnB
 rw [e1]
 refine ⟨by simp; omega, ?_⟩
 rcases h.2 with ⟨h1, h0⟩ | ⟨g, cap, cur, h1, h2, h3, h4, h5, h6, h7⟩ <;> simp only [Value.slice.injEq] at h1
 ·obtain ⟨rfl, rfl, rfl⟩ := h1
  obtain rfl : k = 0 := by omega
  exact .inl ⟨rfl, rfl⟩
 ·obtain ⟨rfl, hnl, rfl⟩ := h1
  refine .inr ⟨g, c, cur, rfl, h2, h3, by omega, h5, h6, ?_⟩
  rw [Nat.mul_one] at h7 ⊢
  rw [List.map_take, ← h7, List.take_take]
  congr 1
  omega
theorem OwnB.ptr {w : World} {base : Nat} {e : TypeId} {p : Option Addr} {n c : Nat} {l : List UInt8} (h : OwnB w base e (.slice p n c) l) (hn : 0 < n) : ∃ g, p = some ⟨g, 0, none⟩ ∧ base ≤ g := by
 rcases h.2 with ⟨h1, h0⟩ | ⟨g, cap, cur, h1, h2, _⟩ <;> simp only [Value.slice.injEq] at h1
 ·omega
 ·exact ⟨g, h1.1, h2⟩
theorem OwnB.cellAt {w : World} {base g : Nat} {e : TypeId} {n c : Nat} {l : List UInt8} (h : OwnB w base e (.slice (some ⟨g, 0, none⟩) n c) l) {k : Nat} (hk : k < n) : w.cell? ⟨g, k, none⟩ = some (bv (l.getD k 0)) := by
 have := World.ownsRow.cells (g := g) h rfl k _ (getElem_of_bv (by have := h.cap.1; omega))
 rwa [add_lit, Nat.zero_add] at this
theorem OwnB.frozenAt {w : World} {base g : Nat} {e : TypeId} {n c : Nat} {l : List UInt8} (h : OwnB w base e (.slice (some ⟨g, 0, none⟩) n c) l) (k : Nat) : w.frozen? ⟨g, k, none⟩ = false := by
 rcases h.2 with ⟨h1, h0⟩ | ⟨g', cap, cur, h1, h2, h3, _⟩ <;> simp only [Value.slice.injEq] at h1
 ·cases h1.1
 ·obtain ⟨h1, _, _⟩ := h1
  simp only [Option.some.injEq, Addr.mk.injEq] at h1
  obtain ⟨rfl, _⟩ := h1
  simp [World.frozen?, h3]
theorem OwnB.set {w : World} {base g : Nat} {e : TypeId} {n c : Nat} {l : List UInt8} (h : OwnB w base e (.slice (some ⟨g, 0, none⟩) n c) l) (k : Nat) (x : UInt8) : OwnB (w.setCell ⟨g, k, none⟩ (bv x)) base e (.slice (some ⟨g, 0, none⟩) n c) (l.set k x) := by
 have hn := h.cap.1
 unfold OwnB
 rw [List.length_set]
 refine ⟨by simp, ?_⟩
 rcases h.2 with ⟨h1, h0⟩ | ⟨g', cap, cur, h1, h2, h3, h4, h5, h6, h7⟩ <;> simp only [Value.slice.injEq] at h1
 ·cases h1.1
 ·obtain ⟨h1, hnl, rfl⟩ := h1
  simp only [Option.some.injEq, Addr.mk.injEq] at h1
  obtain ⟨rfl, _⟩ := h1
  refine .inr ⟨g, c, cur.setIfInBounds k (bv x), by rw [hnl], h2, ?_, h4, h5, by simpa using h6, ?_⟩
  ·simp [World.setCell, Array.getElem?_modify, h3]
  ·rw [Array.toList_setIfInBounds, List.take_set, h7, ← List.map_set]
theorem own_alloc {w : World} {base : Nat} {e : TypeId} {v : Value} {l : List UInt8} (h : OwnB w base e v l) (o : Obj) : OwnB (w.alloc o) base e v l := World.ownsRow.alloc h o
theorem Byt.kp {w w' : World} {v : Value} {l : List UInt8} {L : List Nat} (h : Byt w v l) (k : Kp L w w') (hd : ∀ i, i ∈ ob v → i ∉ L) : Byt w' v l := by
 rcases h with h | ⟨b, o, cap, h1, h2, h3, h4⟩
 ·exact .inl h
 ·exact .inr ⟨b, o, cap, h1, h2, h3, fun i hi => k.cell (h4 i hi) (hd b (by rw [h1]; simp [ob, Value.ownBlock]))⟩
theorem byt_new (w : World) (l : List UInt8) (t : TypeId) (h : l.length ≤ maxLen) : Byt (w.alloc (.cells (l.map bv).toArray t)) (.slice (some ⟨w.heap.size, 0, none⟩) l.length l.length) l :=
 .inr ⟨_, 0, _, rfl, Nat.le_refl _, h, fun i hi => by rw [Nat.zero_add]; exact (Blk.new w _ _).cell (getElem_of_bv hi)⟩
theorem own_new (w : World) (t : TypeId) (base : Nat) (hb : base ≤ w.heap.size) : OwnB (w.alloc (.cells #[] t)) base t (.slice (some ⟨w.heap.size, 0, none⟩) 0 0) [] :=
 World.ownsRow_made w #[] 0 hb (by unfold maxLen; omega) rfl
end Go.Proofs.YtooebogidjejoaaGreat
namespace Go.Proofs.YtooebogidjejoaaGreat
open Go
def Dr (w : World) (w' : World) : Prop := ∃ n, w' = w.drewN n
theorem Dr.self (w : World) : Dr w w := ⟨0, rfl⟩
def fixedOp : Op → Bool
 | .move _ | .assign _ | .extract _ _ => true
 | _ => false
theorem fixed_run {P : Program} {o : Oper} (hf : fixedOp o.op = true) (ρ : Operand → Value) {w w1 : World} {n : Next} (h : (execOp ρ o).run P w = .ok n w1) :
  ∃ v, n = .value v ∧ ∀ w', (execOp ρ o).run P w' = .ok (.value v) w' := by
 unfold fixedOp at hf
 cases ho : o.op <;> simp only [ho] at hf <;> first | (cases hf; done) | skip
 case move x => simp only [execOp, ho] at h ⊢; simp only [Sem.run_pure, Result.ok.injEq] at h ⊢; exact ⟨_, h.1.symm, fun w' => by simp⟩
 case assign x => simp only [execOp, ho] at h ⊢; simp only [Sem.run_pure, Result.ok.injEq] at h ⊢; exact ⟨_, h.1.symm, fun w' => by simp⟩
 case extract t ix =>
  simp only [execOp, ho, Instr.extract] at h ⊢
  cases ht : ρ t with
  | tuple vs =>
   simp only [ht] at h ⊢
   cases hv : vs[ix]? with
   | none => simp [hv, stuck] at h
   | some v => simp [hv] at h ⊢; exact h.1.symm
  | _ => simp [ht, stuck] at h
def descs (ops : Array Oper) (i : Nat) : Nat → List Bool
 | 0 => []
 | j + 1 =>
  let d := descs ops i j
  d ++ [match ops[j]? with
   | some o => o.after.any fun e => Region.binds .any e && (e.on == i || (decide (e.on < j) && d.getD e.on false))
   | none => false]
def waitsT (ops : Array Oper) (j i : Nat) : Bool := (descs ops i (j + 1)).getD j false
theorem descs_length (ops : Array Oper) (i n : Nat) : (descs ops i n).length = n := by
 induction n with
 | zero => rfl
 | succ n ih => simp [descs, ih]
theorem descs_getD (ops : Array Oper) (i : Nat) : ∀ (n j : Nat), j < n → (descs ops i n).getD j false = waitsT ops j i := by
 intro n
 induction n with
 | zero => intro j hj; omega
 | succ n ih =>
  intro j hj
  by_cases h : j = n
  ·subst h; rfl
  ·have hj' : j < n := by omega
   simp only [descs, List.getD_eq_getElem?_getD]
   rw [List.getElem?_append_left (by rw [descs_length]; exact hj')]
   have := ih j hj'
   rw [List.getD_eq_getElem?_getD] at this
   exact this
theorem waitsT_spec {ops : Array Oper} {j i : Nat} (h : waitsT ops j i = true) :
  ∃ o, ops[j]? = some o ∧ ∃ e ∈ o.after, Region.binds .any e = true ∧ (e.on = i ∨ (e.on < j ∧ waitsT ops e.on i = true)) := by
 unfold waitsT at h
 simp only [descs, List.getD_eq_getElem?_getD] at h
 rw [List.getElem?_append_right (by rw [descs_length]; exact Nat.le_refl _), descs_length] at h
 simp only [Nat.sub_self, List.getElem?_cons_zero, Option.getD_some] at h
 cases ho : ops[j]? with
 | none => simp [ho] at h
 | some o =>
  simp only [ho] at h
  obtain ⟨e, he, hb⟩ := Array.any_eq_true'.1 h
  simp only [Bool.and_eq_true, Bool.or_eq_true, beq_iff_eq, decide_eq_true_eq] at hb
  refine ⟨o, rfl, e, he, hb.1, ?_⟩
  rcases hb.2 with h1 | ⟨h1, h2⟩
  ·exact .inl h1
  ·refine .inr ⟨h1, ?_⟩
   have := descs_getD ops i j e.on h1
   rw [List.getD_eq_getElem?_getD] at this
   rw [← this]; exact h2
def Closed (ops : Array Oper) (listed : Array Bool) : Prop :=
 ∀ j oj, ops[j]? = some oj → listed.getD j false = true → ∀ e ∈ oj.after, Region.binds .any e = true → listed.getD e.on false = true
theorem Closed.waits {ops : Array Oper} {listed : Array Bool} (hc : Closed ops listed) {i : Nat} : ∀ (j : Nat), waitsT ops j i = true →
  (∀ o, ops[j]? = some o → ∀ e ∈ o.after, Region.binds .any e = true → listed.getD e.on false = true) → listed.getD i false = true := by
 intro j
 induction j using Nat.strongRecOn with
 | _ j ih =>
  intro h hall
  obtain ⟨o, ho, e, he, hb, h1 | ⟨h1, h2⟩⟩ := waitsT_spec h
  ·rw [← h1]; exact hall o ho e he hb
  ·have hl := hall o ho e he hb
   exact ih e.on h1 h2 fun o' ho' e' he' hb' => hc e.on o' ho' hl e' he' hb'
theorem Closed.set {ops : Array Oper} {listed : Array Bool} (hc : Closed ops listed) {i : Nat} (hi : i ∈ Region.ready .any ops listed) : Closed ops (listed.setIfInBounds i true) := by
 obtain ⟨_, oi, hoi, hall⟩ := mem_ready.1 hi
 intro j oj hj hl e he hb
 by_cases hij : i = j
 ·subst hij
  obtain rfl : oj = oi := Option.some.inj (hj.symm.trans hoi)
  exact getD_set_true (hall e he hb)
 ·rw [getD_set_ne false hij] at hl
  exact getD_set_true (hc j oj hj hl e he hb)
section
variable {P : Program} {ops : Array Oper} {Q : Exit → Act → World → Prop}
def Again (P : Program) (ops : Array Oper) (k : Nat) (a : Act) (w : World) : Prop :=
 ∀ o, ops[k]? = some o → ∃ u, YieldsIn P ops (Dr w) o u a ∧ a.put o.dst u = a
def Mv (ops : Array Oper) (tag : Nat → Bool) (listed : Array Bool) (k : Nat) : Prop := ∀ j, listed.getD j false = true → tag j = false → ¬ waitsT ops j k = true
def wpAnyM (P : Program) (ops : Array Oper) (Q : Exit → Act → World → Prop) (tag : Nat → Bool) (pend : Nat → List Nat) : Nat → Array Bool → Act → (World → Prop) → Prop
 | 0, listed, a, C => Region.ready .any ops listed = [] ∧ ∀ w, C w → Q .normal a w
 | f + 1, listed, a, C =>
  (Region.ready .any ops listed = [] → ∀ w, C w → Q .normal a w) ∧
  ∀ i ∈ Region.ready .any ops listed,
   if tag i then qOp P ops C i (fun a' => wpAnyM P ops Q tag pend f (listed.setIfInBounds i true) a' C) a
   else ∀ w, C w → wpOp P ops Q i (fun a' w' => ∃ C' : World → Prop, C' w' ∧ (∀ k ∈ pend i, listed.getD k false = true → Mv ops tag listed k → ∀ o, ops[k]? = some o → ∃ u, YieldsIn P ops C' o u a' ∧ a'.put o.dst u = a') ∧
    wpAnyM P ops Q tag pend f (listed.setIfInBounds i true) a' C') a w
theorem wpAny_of_M {tag : Nat → Bool} {pend : Nat → List Nat} : ∀ (f : Nat) (listed : Array Bool) (a : Act) (C : World → Prop) (w : World), C w →
  wpAnyM P ops Q tag pend f listed a C → wpAny P .any ops Q f listed a w
 | 0, _, _, _, w, hw, h => ⟨h.1, h.2 w hw⟩
 | f + 1, listed, a, C, w, hw, h => by
  refine ⟨fun h0 => h.1 h0 w hw, fun i hi => ?_⟩
  have h1 := h.2 i hi
  split at h1
  ·exact wpOp_of_qOp hw (fun a' w' hw' hK => wpAny_of_M f _ a' C w' hw' hK) h1
  ·exact wpOp_mono (fun a' w' ⟨C', hC', _, hK⟩ => wpAny_of_M f _ a' C' w' hC' hK) (h1 w hw)
theorem yields_of_fixed {C : World → Prop} {o : Oper} {v : Value} {a : Act} (hf : fixedOp o.op = true) (hy : YieldsIn P ops C o v a) {w : World} (hw : C w) : Yields P ops o v a := by
 rcases hy with ⟨h1, h2⟩ | h
 ·refine .inl ⟨h1, ?_⟩
  have h3 := h2 w hw
  unfold Oper.quietAt at h3
  cases hr : (execOp a.eval o).run P w with
  | halt x w' => rw [hr] at h3; simp [Oper.quietUpon] at h3
  | ok n w' =>
   obtain ⟨u, rfl, hu⟩ := fixed_run hf a.eval hr
   rw [hr] at h3
   simp only [Oper.quietUpon] at h3
   obtain ⟨_, rfl⟩ := h3
   exact hu
 ·exact .inr h
theorem yieldsIn_of_yields {C : World → Prop} {o : Oper} {v : Value} {a : Act} (hy : Yields P ops o v a) : YieldsIn P ops C o v a := by
 rcases hy with ⟨h1, h2⟩ | h
 ·refine .inl ⟨h1, fun w _ => ?_⟩
  unfold Oper.quietAt
  rw [h2 w]
  exact ⟨rfl, rfl⟩
 ·exact .inr h
theorem wpOp_putK {j : Nat} {oi oj : Oper} {v : Value} (hj : ops[j]? = some oj) (hap : oi.apart ops oj = true)
  (hsj : ∀ cs b, oj.op ≠ .select cs b)
  (hQ : ∀ c a w, Q (.panic c) (a.put oi.dst v) w → Q (.panic c) a w) {K : Act → World → Prop} {a : Act} {w : World}
  (h : wpOp P ops Q j K (a.put oi.dst v) w) : wpOp P ops Q j (fun a' w' => K (a'.put oi.dst v) w') a w := by
 obtain ⟨h1, h2, h3⟩ := Oper.apart_spec hap
 unfold wpOp at *
 simp only [hj] at *
 rw [wanted_put oj a oi.dst v h1] at h
 split
 ·rename_i hw
  simp only [hw, if_true] at h
  rcases h with h | ⟨hasks, hlets⟩
  case inr => exact .inr ⟨by unfold Oper.asks at *; rw [execOp_put oj hsj a oi.dst v h1] at hasks; exact hasks, hlets⟩
  refine .inl ?_
  unfold Oper.wp at *
  rw [execOp_put oj hsj a oi.dst v h1] at h
  generalize (execOp a.eval oj).run P w = r at *
  cases r with
  | ok n w' =>
   cases n <;> simp only [Oper.upon] at h ⊢
   case value u => rw [← Act.put_comm a v u h2]; exact h
   case skip => rw [← Act.put_comm a v undef h2]; exact h
   case defer d =>
    rw [← Act.put_comm _ v undef h2, ← Act.put_defers]
    exact h
   case enter f args =>
    refine Calls.mono h fun e w'' he => ?_
    cases e with
    | returned u => show K ((a.put oj.dst u).put oi.dst v) w''; rw [← Act.put_comm a v u h2]; exact he
    | panicked c => exact hQ _ _ _ he
    | outgrown => exact he
   case row row args => exact Rows.mono h fun u w'' he => by rw [← Act.put_comm a v u h2]; exact he
  | halt x w' =>
   cases x <;> simp only [Oper.upon] at h ⊢
   case panic u => exact hQ _ _ _ h
 ·rename_i hw
  simp only [hw] at h
  rw [← Act.put_comm a v undef h2]; exact h
theorem put_put (a : Act) (d : Option Tmp) (u v : Value) : (a.put d u).put d v = a.put d v := by
 cases d with
 | none => rfl
 | some t => simp [Act.put]
def clear_ (ops : Array Oper) (oi ok : Oper) : Bool :=
 match oi.dst with
 | some d => !(ok.looksAt ops).contains d && ok.dst != some d
 | none => true
theorem clear_spec {oi ok : Oper} (h : clear_ ops oi ok = true) : (∀ d, oi.dst = some d → d ∉ ok.looksAt ops) ∧ (∀ d, oi.dst = some d → ok.dst ≠ some d) := by
 refine ⟨fun d hd => ?_, fun d hd => ?_⟩ <;> simp [clear_, hd] at h
 ·exact h.1
 ·exact h.2
theorem yieldsIn_put {C : World → Prop} {oi ok : Oper} {u v : Value} {a : Act} (hsel : ∀ cs b, ok.op ≠ .select cs b) (hd : ∀ d, oi.dst = some d → d ∉ ok.looksAt ops) (h : YieldsIn P ops C ok u (a.put oi.dst v)) : YieldsIn P ops C ok u a :=
 h.of_same (execOp_put ok hsel a oi.dst v hd).symm (wanted_put ok a oi.dst v hd).symm
theorem put_inj (a : Act) {d e : Option Tmp} (u v : Value) (hne : ∀ t, d = some t → e ≠ some t) (h : (a.put d v).put e u = a.put d v) : a.put e u = a := by
 cases e with
 | none => rfl
 | some t =>
  cases d with
  | none => exact h
  | some s =>
   have hst : s ≠ t := fun e => hne s rfl (by rw [e])
   cases a with
   | mk tmps defers =>
    simp only [Act.put, Act.mk.injEq, and_true] at h ⊢
    apply Array.ext_getElem?
    intro k
    by_cases hk : t = k
    ·subst hk
     have := congrArg (fun A => A[t]?) h
     rw [Array.getElem?_setIfInBounds_ne hst] at this
     rcases Nat.lt_or_ge t tmps.size with hlt | hge
     ·rw [Array.getElem?_setIfInBounds_self_of_lt (by simpa using hlt)] at this
      rw [Array.getElem?_setIfInBounds_self_of_lt hlt]
      exact this
     ·rw [Array.getElem?_eq_none (by simpa using hge), Array.getElem?_eq_none hge]
    ·rw [Array.getElem?_setIfInBounds_ne hk]
variable {tag : Nat → Bool} {pend : Nat → List Nat}
theorem wpAnyM_first {i : Nat} {oi : Oper} (hi : ops[i]? = some oi) (hself : ∀ d, oi.dst = some d → d ∉ oi.looksAt ops) (hsel : ∀ (j : Nat) (o : Oper) cs b, ops[j]? = some o → o.op ≠ .select cs b)
  (hQ : ∀ c a a' w, Q (.panic c) a w → Q (.panic c) a' w)
  (heff : ∀ j, j < ops.size → tag j = false → fixedOp oi.op = true ∨ waitsT ops j i = true ∨ i ∈ pend j ∨ waitsT ops i j = true)
  (hclr : ∀ j k ok, j < ops.size → tag j = false → k ∈ pend j → k ≠ i → ops[k]? = some ok → clear_ ops oi ok = true ∨ waitsT ops i j = true ∨ waitsT ops k i = true) :
  ∀ (f : Nat) (v : Value) (listed : Array Bool) (a : Act) (C : World → Prop), Closed ops listed →
   (∀ j oj, ops[j]? = some oj → j ≠ i → listed.getD j true = false → (∀ e ∈ oj.after, Region.binds .any e = true → e.on ≠ i) → oi.apart ops oj = true) →
   i ∈ Region.ready .any ops listed → YieldsIn P ops C oi v a → (tag i = true) → (∃ w, C w) →
   wpAnyM P ops Q tag pend f (listed.setIfInBounds i true) (a.put oi.dst v) C → wpAnyM P ops Q tag pend (f + 1) listed a C := by
 intro f
 induction f with
 | zero =>
  intro v listed a C hcl _ hr hy ht _ H
  refine ⟨fun h => (by rw [h] at hr; cases hr), fun j hj => ?_⟩
  by_cases hji : j = i
  ·subst hji; rw [if_pos ht]; exact hy.qOp hi H
  ·have := ready_mono hj hji
   rw [H.1] at this
   cases this
 | succ f ih =>
  intro v listed a C hcl hfree hr hy ht hne H
  refine ⟨fun h => (by rw [h] at hr; cases hr), fun j hj => ?_⟩
  by_cases hji : j = i
  ·subst hji; rw [if_pos ht]; exact hy.qOp hi H
  ·have h1 := H.2 j (ready_mono hj hji)
   obtain ⟨hjun, oj, hoj, hall⟩ := mem_ready.1 hj
   have hiun := (mem_ready.1 hr).1
   have hnl : listed.getD i false = false := by
    rcases Nat.lt_or_ge i listed.size with h' | h'
    ·simp [h'] at hiun ⊢; exact hiun
    ·simp [Array.getElem?_eq_none h']
   have hnot : ∀ e ∈ oj.after, Region.binds .any e = true → e.on ≠ i := fun e he hb heq => by
    have h1 := hall e he hb
    rw [heq, hnl] at h1
    cases h1
   have hap := hfree j oj hoj hji hjun hnot
   have hfree' : ∀ k ok, ops[k]? = some ok → k ≠ i → (listed.setIfInBounds j true).getD k true = false →
     (∀ e ∈ ok.after, Region.binds .any e = true → e.on ≠ i) → oi.apart ops ok = true := fun k ok hk hki hun hno => by
    refine hfree k ok hk hki ?_ hno
    by_cases hjk : j = k
    ·subst hjk; exact hjun
    ·rw [getD_set_ne true hjk] at hun; exact hun
   have hcl' := hcl.set hj
   have hri' := ready_mono hr (Ne.symm hji)
   split at h1
   ·rename_i htj
    rw [if_pos htj]
    have h2 := qOp_put hoj hap (fun cs b => hsel i oi cs b hi) (fun cs b => hsel j oj cs b hoj) hy h1
    refine qOp_mono (fun a' h3 => ih _ (listed.setIfInBounds j true) a' C hcl' hfree' hri' h3.1 ht hne ?_) h2
    rw [Array.setIfInBounds_comm _ _ hji]
    exact h3.2
   ·rename_i htj
    have htj' : tag j = false := by simpa using htj
    rw [if_neg htj]
    intro w hw
    have hjlt : j < ops.size := (Array.getElem?_eq_some_iff.1 hoj).1
    -- i does not wait for j, nor j for i
    have hij : ¬ waitsT ops j i = true := fun h => by
     have := hcl.waits j h (fun o ho e he hb => by obtain rfl : o = oj := Option.some.inj (ho.symm.trans hoj); exact hall e he hb)
     rw [hnl] at this; cases this
    have hji' : ¬ waitsT ops i j = true := fun h => by
     obtain ⟨_, o', ho', hall'⟩ := mem_ready.1 hr
     have := hcl.waits i h (fun o ho e he hb => by obtain rfl : o = o' := Option.some.inj (ho.symm.trans ho'); exact hall' e he hb)
     have hjn : listed.getD j false = false := by
      rcases Nat.lt_or_ge j listed.size with h' | h'
      ·simp [h'] at hjun ⊢; exact hjun
      ·simp [Array.getElem?_eq_none h']
     rw [hjn] at this; cases this
    have hkwait : ∀ k, listed.getD k false = true → ¬ waitsT ops k i = true := fun k hlk h => by
     have := hcl.waits k h (fun o ho e he hb => hcl k o ho hlk e he hb)
     rw [hnl] at this; cases this
    have hmvs : ∀ k, Mv ops tag listed k → Mv ops tag (listed.setIfInBounds i true) k := fun k hm j' hl ht' => by
     refine hm j' ?_ ht'
     by_cases e : i = j'
     ·subst e; rw [ht] at ht'; cases ht'
     ·rw [getD_set_ne false e] at hl; exact hl
    have h2 := wpOp_putK (Q := Q) hoj hap (fun cs b => hsel j oj cs b hoj) (fun c a w h => hQ c _ _ w h) (h1 w hw)
    obtain ⟨_, h2c, h3c⟩ := Oper.apart_spec hap
    by_cases hfx : fixedOp oi.op = true
    ·have hy0 := yields_of_fixed hfx hy hw
     have h2' := wpOp_put (Q := Q) hoj hap (fun cs b => hsel i oi cs b hi) (fun cs b => hsel j oj cs b hoj) (fun c a w h => hQ c _ _ w h) hy0 (h1 w hw)
     refine wpOp_mono (fun a' w' h3 => ?_) h2'
     obtain ⟨hya, C', hC', hag, hM⟩ := h3
     refine ⟨C', hC', fun k hk hlk hmv ok hok => ?_, ?_⟩
     ·have hki : k ≠ i := fun e => by subst e; rw [hnl] at hlk; cases hlk
      obtain ⟨u, hyu, hpu⟩ := hag k hk (getD_set_true hlk) (hmvs k hmv) ok hok
      have hc := (((hclr j k ok hjlt htj' hk hki hok).resolve_right (fun h => h.elim hji' (hkwait k hlk))))
      obtain ⟨c1, c2⟩ := clear_spec hc
      exact ⟨u, yieldsIn_put (fun cs b => hsel k ok cs b hok) c1 hyu, put_inj a' u v c2 hpu⟩
     ·refine ih _ (listed.setIfInBounds j true) a' C' hcl' hfree' hri' (yieldsIn_of_yields hya) ht ⟨w', hC'⟩ ?_
      rw [Array.setIfInBounds_comm _ _ hji]
      exact hM
    ·have hpi : i ∈ pend j := by
      rcases heff j hjlt htj' with h | h | h | h
      ·exact absurd h hfx
      ·exact absurd h hij
      ·exact h
      ·exact absurd h hji'
     refine wpOp_mono (fun a' w' h3 => ?_) h2
     obtain ⟨C', hC', hag, hM⟩ := h3
     have hset : (listed.setIfInBounds i true).getD i false = true := by
      rcases Nat.lt_or_ge i listed.size with h | h
      ·simp [h]
      ·simp [Nat.not_lt.2 h] at hiun
     obtain ⟨u, hyu, hpu⟩ := hag i hpi hset (hmvs i fun j' hl _ => hkwait j' hl) oi hi
     have hyv : YieldsIn P ops C' oi u a' := yieldsIn_put (oi := oi) (fun cs b => hsel i oi cs b hi) hself hyu
     rw [put_put] at hpu
     refine ⟨C', hC', fun k hk hlk hmv ok hok => ?_, ?_⟩
     ·have hki : k ≠ i := fun e => by subst e; rw [hnl] at hlk; cases hlk
      obtain ⟨u', hyu', hpu'⟩ := hag k hk (getD_set_true hlk) (hmvs k hmv) ok hok
      have hc := (((hclr j k ok hjlt htj' hk hki hok).resolve_right (fun h => h.elim hji' (hkwait k hlk))))
      obtain ⟨c1, c2⟩ := clear_spec hc
      exact ⟨u', yieldsIn_put (fun cs b => hsel k ok cs b hok) c1 hyu', put_inj a' u' v c2 hpu'⟩
     ·have hap' := ih _ (listed.setIfInBounds j true) a' C' hcl' hfree' hri' hyv ht ⟨w', hC'⟩ (by
       rw [Array.setIfInBounds_comm _ _ hji, hpu]
       exact hM)
      exact hap'
def markAll (is : List Nat) (listed : Array Bool) : Array Bool := is.foldl (fun A i => A.setIfInBounds i true) listed
def pick (ops : Array Oper) (is : List Nat) : List Oper := is.filterMap fun i => ops[i]?
abbrev Plan := List (List Nat × List Nat × List Nat)
def quietOf (p : Plan) (i : Nat) : Bool := p.any fun x => x.1.contains i
def pendOf (p : Plan) (j : Nat) : List Nat := (p.filterMap fun x => if x.2.1.getLast? = some j then some x.2.2 else none).flatten
def selfB (ops : Array Oper) (oi : Oper) : Bool := match oi.dst with | some d => !(oi.looksAt ops).contains d | none => true
def firstB (ops : Array Oper) (tg : Nat → Bool) (pd : Nat → List Nat) (i : Nat) : Bool :=
 match ops[i]? with
 | none => false
 | some oi => selfB ops oi && (List.range ops.size).all fun j => tg j ||
   ((fixedOp oi.op || waitsT ops j i || (pd j).contains i || waitsT ops i j) &&
    (pd j).all fun k => k == i || (match ops[k]? with | some ok => clear_ ops oi ok | none => true) || waitsT ops i j || waitsT ops k i)
def blockB (ops : Array Oper) (tg : Nat → Bool) (pd : Nat → List Nat) : List Nat → Array Bool → Bool
 | [], _ => true
 | i :: b, listed => tg i && (Region.ready .any ops listed).contains i && Region.free .any ops listed i && firstB ops tg pd i && blockB ops tg pd b (listed.setIfInBounds i true)
def effB (ops : Array Oper) (tg : Nat → Bool) (pd : Nat → List Nat) : List Nat → Array Bool → Bool
 | [], _ => true
 | i :: e, listed => !tg i && decide (Region.ready .any ops listed = [i]) && (e.isEmpty || (pd i).isEmpty) && (ops[i]?).isSome && effB ops tg pd e (listed.setIfInBounds i true)
def dsts (l : List Oper) : List Nat := l.filterMap fun o => o.dst
def freshB : List Nat → Bool
 | [] => true
 | d :: l => !l.contains d && freshB l
def planB (ops : Array Oper) (tg : Nat → Bool) (pd : Nat → List Nat) : Plan → Array Bool → Bool
 | [], listed => (Region.ready .any ops listed).isEmpty
 | (b, e, k) :: rest, listed => blockB ops tg pd b listed && effB ops tg pd e (markAll b listed) && (if e.isEmpty then true else decide (pd (e.getLastD 0) = k) && (!rest.isEmpty || k.isEmpty) && freshB (dsts (pick ops k))) && planB ops tg pd rest (markAll e (markAll b listed))
def mixB (ops : Array Oper) (p : Plan) : Bool := Region.noSelect ops && planB ops (quietOf p) (pendOf p) p (Array.replicate ops.size false)
def AgainAll (P : Program) (ops : Array Oper) (a : Act) (w : World) (l : List Oper) : Prop := wpQuiet P ops (fun w' => ∃ n, w' = w.drewN n) (fun a' => a' = a) l a
theorem quiet_keeps {C : World → Prop} {d : Nat} {b : Act} : ∀ (l : List Oper) (a : Act), d ∉ dsts l → wpQuiet P ops C (fun a' => a' = b) l a → b.tmps[d]? = a.tmps[d]?
 | [], a, _, h => by rw [show a = b from h]
 | o :: l, a, hd, h => by
  have hd' : d ∉ dsts l := fun hm => hd (by
   unfold dsts at hm ⊢
   rw [List.filterMap_cons]
   split
   ·exact hm
   ·exact List.mem_cons_of_mem _ hm)
  have hne : ∀ v, (a.put o.dst v).tmps[d]? = a.tmps[d]? := by
   intro v
   cases ho : o.dst with
   | none => rfl
   | some t =>
    have : t ≠ d := fun e => hd (by unfold dsts; rw [List.filterMap_cons_some ho, e]; simp)
    simp [Act.put, Array.getElem?_setIfInBounds_ne this]
  unfold wpQuiet at h
  split at h
  ·obtain ⟨v, _, h2⟩ := h
   rw [quiet_keeps l _ hd' h2, hne]
  ·rw [quiet_keeps l _ hd' h, hne]
theorem quiet_again {C : World → Prop} : ∀ (l : List Oper) (a : Act), freshB (dsts l) = true → wpQuiet P ops C (fun a' => a' = a) l a → ∀ o ∈ l, ∃ u, YieldsIn P ops C o u a ∧ a.put o.dst u = a
 | [], _, _, _, o, ho => by cases ho
 | o1 :: l, a, hf, h, o, ho => by
  have key : ∃ v, YieldsIn P ops C o1 v a ∧ wpQuiet P ops C (fun a' => a' = a) l (a.put o1.dst v) := by
   unfold wpQuiet at h
   by_cases hw : Region.wanted o1 (yielded ops a.tmps) = true
   ·rw [if_pos hw] at h
    obtain ⟨v, h1, h2⟩ := h
    exact ⟨v, .inl ⟨hw, h1⟩, h2⟩
   ·rw [if_neg hw] at h
    exact ⟨undef, .inr ⟨by simpa using hw, rfl⟩, h⟩
  obtain ⟨v, hy, h2⟩ := key
  have hl : freshB (dsts l) = true := by
   unfold dsts at hf ⊢
   rw [List.filterMap_cons] at hf
   split at hf
   ·exact hf
   ·simp only [freshB, Bool.and_eq_true] at hf; exact hf.2
  have hp : a.put o1.dst v = a := by
   cases hd : o1.dst with
   | none => rfl
   | some d =>
    have hd' : d ∉ dsts l := by
     unfold dsts at hf ⊢
     rw [List.filterMap_cons_some hd] at hf
     simp only [freshB, Bool.and_eq_true, Bool.not_eq_true'] at hf
     intro hm
     have := hf.1
     simp at this
     obtain ⟨x, hx, hxd⟩ := List.mem_filterMap.1 hm
     exact this x hx hxd
    rw [hd] at h2
    have := quiet_keeps l _ hd' h2
    cases a with
    | mk tmps defers =>
     simp only [Act.put, Act.mk.injEq, and_true] at this ⊢
     apply Array.ext_getElem?
     intro k
     by_cases hk : d = k
     ·subst hk; exact this.symm
     ·rw [Array.getElem?_setIfInBounds_ne hk]
  rw [hp] at h2
  rcases List.mem_cons.1 ho with rfl | ho
  ·exact ⟨v, hy, hp⟩
  ·exact quiet_again l a hl h2 o ho
def mixWP (P : Program) (ops : Array Oper) (Q : Exit → Act → World → Prop) : Plan → Act → World → Prop
 | [], a, w => Q .normal a w
 | (b, e, k) :: rest, a, w =>
  wpQuiet P ops (Dr w) (fun a' => ∀ n, wpList P ops (Exit.then (fun a2 w2 => AgainAll P ops a2 w2 (pick ops k) ∧ mixWP P ops Q rest a2 w2) Q) (pick ops e) a' (w.drewN n)) (pick ops b) a
theorem markAll_cons (i : Nat) (is : List Nat) (listed : Array Bool) : markAll (i :: is) listed = markAll is (listed.setIfInBounds i true) := rfl
theorem againAll_spec {a : Act} {w : World} (ks : List Nat) (hf : freshB (dsts (pick ops ks)) = true) (h : AgainAll P ops a w (pick ops ks)) : ∀ k ∈ ks, ∀ o, ops[k]? = some o → ∃ u, YieldsIn P ops (Dr w) o u a ∧ a.put o.dst u = a :=
 fun k hk o ho => quiet_again _ a hf h o (List.mem_filterMap.2 ⟨k, hk, ho⟩)
theorem wpAnyM_chain {tg : Nat → Bool} {pd : Nat → List Nat} {rest : Act → World → Prop} {f : Nat} {ks : List Nat} : ∀ (e : List Nat) (listed : Array Bool) (a : Act) (C : World → Prop), e ≠ [] → effB ops tg pd e listed = true → Closed ops listed →
  (∀ i, e.getLast? = some i → pd i = ks) →
  (∀ listed' a' w', Closed ops listed' → listed' = markAll e listed → AgainAll P ops a' w' (pick ops ks) → rest a' w' →
   ∃ C' : World → Prop, C' w' ∧ (∀ k ∈ ks, ∀ o, ops[k]? = some o → ∃ u, YieldsIn P ops C' o u a' ∧ a'.put o.dst u = a') ∧ wpAnyM P ops Q tg pd f listed' a' C') →
  (∀ w, C w → wpList P ops (Exit.then (fun a2 w2 => AgainAll P ops a2 w2 (pick ops ks) ∧ rest a2 w2) Q) (pick ops e) a w) →
  wpAnyM P ops Q tg pd (e.length + f) listed a C
 | [], _, _, _, hne, _, _, _, _, _ => absurd rfl hne
 | i :: e, listed, a, C, _, hB, hcl, hlast, hrest, h => by
  simp only [effB, Bool.and_eq_true, Bool.not_eq_true', decide_eq_true_eq, Bool.or_eq_true] at hB
  obtain ⟨⟨⟨⟨hq, hr⟩, hp⟩, hs⟩, hB'⟩ := hB
  obtain ⟨o, ho⟩ := Option.isSome_iff_exists.1 hs
  rw [show (i :: e).length + f = (e.length + f) + 1 by simp; omega]
  have hir : i ∈ Region.ready .any ops listed := by rw [hr]; simp
  refine ⟨fun h0 => absurd (hr ▸ h0) (by simp), fun j hj => ?_⟩
  rw [hr] at hj
  obtain rfl : j = i := by simpa using hj
  rw [hq]
  simp only [Bool.false_eq_true, if_false]
  intro w hw
  have h1 := h w hw
  have hpk : pick ops (j :: e) = o :: pick ops e := by unfold pick; rw [List.filterMap_cons_some ho]
  rw [hpk] at h1
  have hcl' := hcl.set hir
  unfold wpList at h1
  unfold wpOp
  simp only [ho]
  -- what comes behind
  have on : ∀ a' w', wpList P ops (Exit.then (fun a2 w2 => AgainAll P ops a2 w2 (pick ops ks) ∧ rest a2 w2) Q) (pick ops e) a' w' →
    ∃ C' : World → Prop, C' w' ∧ (∀ k ∈ pd j, listed.getD k false = true → Mv ops tg listed k → ∀ o, ops[k]? = some o → ∃ u, YieldsIn P ops C' o u a' ∧ a'.put o.dst u = a') ∧
    wpAnyM P ops Q tg pd (e.length + f) (listed.setIfInBounds j true) a' C' := by
   intro a' w' h2
   by_cases he : e = []
   ·subst he
    have h3 : AgainAll P ops a' w' (pick ops ks) ∧ rest a' w' := h2
    obtain ⟨C', hC', hag, hM⟩ := hrest _ a' w' hcl' rfl h3.1 h3.2
    refine ⟨C', hC', fun k hk _ _ o ho => hag k (by rw [← hlast j rfl]; exact hk) o ho, ?_⟩
    simp only [List.length_nil, Nat.zero_add]
    exact hM
   ·have hpe : pd j = [] := by
     rcases hp with h | h
     ·exact absurd (by simpa using h) he
     ·simpa using h
    refine ⟨fun x => x = w', rfl, (fun k hk => absurd (hpe ▸ hk) (by simp)), ?_⟩
    refine wpAnyM_chain e _ a' _ he hB' hcl' (fun x hx => hlast x ?_) (fun l2 a2 w2 hc2 hl2 hg2 hr2 => hrest l2 a2 w2 hc2 hl2 hg2 hr2) (fun x hx => by subst hx; exact h2)
    rw [List.getLast?_cons, hx]; rfl
  by_cases hw' : Region.wanted o (yielded ops a.tmps) = true
  ·rw [if_pos hw'] at h1 ⊢
   rcases h1 with h1 | ⟨hasks, a0, w0, hl⟩
   ·refine .inl ?_
    have h2 : o.wp P a w (fun a' w' => ∃ C' : World → Prop, C' w' ∧ (∀ k ∈ pd j, listed.getD k false = true → Mv ops tg listed k → ∀ o, ops[k]? = some o → ∃ u, YieldsIn P ops C' o u a' ∧ a'.put o.dst u = a') ∧
      wpAnyM P ops Q tg pd (e.length + f) (listed.setIfInBounds j true) a' C') (Exit.then (fun a2 w2 => AgainAll P ops a2 w2 (pick ops ks) ∧ rest a2 w2) Q) := Oper.wp_mono on h1
    unfold Oper.wp at h2 ⊢
    generalize (execOp a.eval o).run P w = r at h2 ⊢
    cases r with
    | ok n w' =>
     cases n <;> simp only [Oper.upon] at h2 ⊢ <;>
      first
       | exact h2
       | exact Calls.mono h2 (fun e w'' he => by cases e <;> exact he)
    | halt x w' => cases x <;> simp only [Oper.upon] at h2 ⊢ <;> exact h2
   ·exact .inr ⟨hasks, a0, w0, hl⟩
  ·rw [if_neg hw'] at h1 ⊢
   exact on _ _ h1
theorem wpAnyM_block {tg : Nat → Bool} {pd : Nat → List Nat} (hsel : Region.noSelect ops = true) (hQ : ∀ c a a' w, Q (.panic c) a w → Q (.panic c) a' w) {C : World → Prop} (hC : ∃ w, C w) {f : Nat} {N : Act → Prop} :
  ∀ (b : List Nat) (listed : Array Bool) (a : Act), blockB ops tg pd b listed = true → Closed ops listed →
  (∀ a', Closed ops (markAll b listed) → N a' → wpAnyM P ops Q tg pd f (markAll b listed) a' C) →
  wpQuiet P ops C N (pick ops b) a → wpAnyM P ops Q tg pd (b.length + f) listed a C
 | [], listed, a, _, hcl, hN, h => by
  simp only [List.length_nil, Nat.zero_add]
  exact hN a hcl h
 | i :: b, listed, a, hB, hcl, hN, h => by
  simp only [blockB, Bool.and_eq_true] at hB
  obtain ⟨⟨⟨⟨hq, hr⟩, hf⟩, h1⟩, hB'⟩ := hB
  have hr' : i ∈ Region.ready .any ops listed := by simpa using hr
  obtain ⟨_, o, ho, _⟩ := mem_ready.1 hr'
  have hpk : pick ops (i :: b) = o :: pick ops b := by unfold pick; rw [List.filterMap_cons_some ho]
  rw [hpk] at h
  have hst : qOp P ops C i (wpQuiet P ops C N (pick ops b)) a := by unfold qOp; simp only [ho]; exact h
  obtain ⟨v, hy, hK⟩ := yieldsIn_of_qOp ho hst
  rw [show (i :: b).length + f = (b.length + f) + 1 by simp; omega]
  simp only [firstB, ho, Bool.and_eq_true, List.all_eq_true, List.mem_range] at h1
  obtain ⟨hself, h1⟩ := h1
  refine wpAnyM_first ho ?_ (Region.noSelect_spec hsel) hQ ?_ ?_ (b.length + f) v listed a C hcl (Region.free_spec ho hf) hr' hy hq hC ?_
  ·intro d hd
   simp only [selfB, hd] at hself
   simpa using hself
  ·intro j hj ht
   have := h1 j hj
   simp only [ht, Bool.false_or, Bool.and_eq_true, Bool.or_eq_true, List.contains_iff_mem] at this
   rcases this.1 with ((h | h) | h) | h
   ·exact .inl h
   ·exact .inr (.inl h)
   ·exact .inr (.inr (.inl h))
   ·exact .inr (.inr (.inr h))
  ·intro j k ok hj ht hk hki hok
   have := h1 j hj
   simp only [ht, Bool.false_or, Bool.and_eq_true, List.all_eq_true] at this
   have h2 := this.2 k hk
   simp only [hok, Bool.or_eq_true, beq_iff_eq, hki, false_or] at h2
   rcases h2 with (h2 | h2) | h2
   ·exact .inl h2
   ·exact .inr (.inl h2)
   ·exact .inr (.inr h2)
  ·exact wpAnyM_block hsel hQ hC b _ _ hB' (hcl.set hr') (fun a' hc hn => hN a' hc hn) hK
def planN : Plan → Nat
 | [] => 0
 | (b, e, _) :: rest => b.length + (e.length + planN rest)
theorem planB_M {tg : Nat → Bool} {pd : Nat → List Nat} (hsel : Region.noSelect ops = true) (hQ : ∀ c a a' w, Q (.panic c) a w → Q (.panic c) a' w) : ∀ (pl : Plan) (listed : Array Bool) (a : Act) (w : World), pl ≠ [] →
  planB ops tg pd pl listed = true → Closed ops listed → mixWP P ops Q pl a w → wpAnyM P ops Q tg pd (planN pl) listed a (Dr w)
 | [], _, _, _, hne, _, _, _ => absurd rfl hne
 | (b, e, k) :: rest, listed, a, w, _, hB, hcl, h => by
  simp only [planB, Bool.and_eq_true] at hB
  obtain ⟨⟨⟨hb, he⟩, hk⟩, hr⟩ := hB
  refine wpAnyM_block hsel hQ ⟨w, Dr.self w⟩ b listed a hb hcl (fun a' hc' hn => ?_) h
  by_cases hee : e = []
  ·subst hee
   by_cases hre : rest = []
   ·subst hre
    simp only [planB, List.isEmpty_iff] at hr
    refine ⟨hr, fun w' hw' => ?_⟩
    obtain ⟨n, rfl⟩ := hw'
    exact (hn n : _ ∧ _).2
   ·have h0 := (hn 0 : _ ∧ _).2
    simp only [List.length_nil, Nat.zero_add]
    exact planB_M hsel hQ rest _ a' w hre hr hc' h0
  ·have hee' : e.isEmpty = false := by simpa using hee
   simp only [hee', Bool.false_eq_true, if_false, Bool.and_eq_true, decide_eq_true_eq, Bool.or_eq_true, Bool.not_eq_true'] at hk
   obtain ⟨⟨hk1, hk2⟩, hk3⟩ := hk
   have hlast : ∀ i, e.getLast? = some i → pd i = k := fun i hi => by
    rw [← hk1]
    congr 1
    simp [List.getLastD_eq_getLast?, hi]
   refine wpAnyM_chain (rest := fun a2 w2 => mixWP P ops Q rest a2 w2) e _ a' _ hee he hc' hlast (fun l2 a2 w2 hc2 hl2 hg2 hr2 => ?_) (fun w' hw' => ?_)
   ·subst hl2
    by_cases hre : rest = []
    ·subst hre
     have hk0 : k = [] := by simpa using hk2
     subst hk0
     exact ⟨fun x => x = w2, rfl, (fun k hk => absurd hk (by simp)), by simpa [planB] using hr, fun w' hw' => by subst hw'; exact hr2⟩
    ·exact ⟨Dr w2, Dr.self w2, againAll_spec k hk3 hg2, planB_M hsel hQ rest _ a2 w2 hre hr hc2 hr2⟩
   ·obtain ⟨n, rfl⟩ := hw'
    exact hn n
theorem closed_none (n : Nat) : Closed ops (Array.replicate n false) := by
 intro j oj _ hl
 rcases Nat.lt_or_ge j n with h | h
 ·simp [h] at hl
 ·simp [Nat.not_lt.2 h] at hl
theorem wp_region_mix {id : Nat} {a : Act} {w : World} (p : Plan) (hm : P.follows .mixedOrders = true) (hB : (mixB ops p && (!p.isEmpty && decide (planN p = ops.size))) = true)
  (h : mixWP P ops (NoPanic Q) p a w) : (Code.region id ops true).wp P Q a w := by
 simp only [Bool.and_eq_true, mixB, decide_eq_true_eq, Bool.not_eq_true', List.isEmpty_eq_false_iff] at hB
 obtain ⟨⟨hs, hp⟩, hne, hn⟩ := hB
 refine wp_region_noPanic (wp_region_any hm (wpAny_of_M (tag := quietOf p) (pend := pendOf p) _ _ _ (Dr w) _ ⟨1, rfl⟩ ?_))
 rw [← hn]
 exact planB_M hs (fun c a a' w h => (h : False).elim) p _ a _ hne (by rw [hn]; exact hp) (closed_none _) h
theorem pick_nil : pick ops [] = [] := rfl
theorem pick_cons {l : List Oper} {i : Nat} {is : List Nat} {o : Oper} (h : l[i]? = some o) : pick l.toArray (i :: is) = o :: pick l.toArray is := by
 unfold pick
 rw [List.filterMap_cons_some (by simpa using h)]
theorem pick_step {l : List Oper} {i : Nat} {is : List Nat} {o : Oper} {t : List Oper} (h : l[i]? = some o) (ht : pick l.toArray is = t) : pick l.toArray (i :: is) = o :: t := by
 rw [pick_cons h, ht]
theorem pick_end {l : List Oper} : pick l.toArray [] = [] := rfl
theorem again_end {a : Act} {C : World → Prop} : wpQuiet P ops C (fun a' => a' = a) [] a := rfl
theorem mix_nil {a : Act} {w : World} (h : Q .normal a w) : mixWP P ops (NoPanic Q) [] a w := h
theorem mix_cons {b e k : List Nat} {rest : Plan} {a : Act} {w : World} {bl el kl : List Oper} (hb : pick ops b = bl) (he : pick ops e = el) (hk : pick ops k = kl)
  (h : wpQuiet P ops (fun w' => ∃ n, w' = w.drewN n) (fun a' => ∀ n, wpList P ops (Exit.then (fun a2 w2 => AgainAll P ops a2 w2 kl ∧ mixWP P ops Q rest a2 w2) Q) el a' (w.drewN n)) bl a) : mixWP P ops Q ((b, e, k) :: rest) a w := by
 subst hb; subst he; subst hk; exact h
theorem mix_cons' {b e : List Nat} {rest : Plan} {a : Act} {w : World} {bl el : List Oper} (hb : pick ops b = bl) (he : pick ops e = el)
  (h : wpQuiet P ops (fun w' => ∃ n, w' = w.drewN n) (fun a' => ∀ n, wpList P ops (Exit.then (fun a2 w2 => mixWP P ops Q rest a2 w2) Q) el a' (w.drewN n)) bl a) : mixWP P ops Q ((b, e, []) :: rest) a w := by
 subst hb; subst he
 have : (fun (a2 : Act) (w2 : World) => AgainAll P ops a2 w2 (pick ops []) ∧ mixWP P ops Q rest a2 w2) = (fun a2 w2 => mixWP P ops Q rest a2 w2) := by
  funext a2 w2; exact propext ⟨fun h => h.2, fun h => ⟨(rfl : a2 = a2), h⟩⟩
 unfold mixWP
 rw [this]
 exact h
end
def ClearOf (ops : Array Oper) (d : Nat) (o : Oper) : Prop := d ∉ o.looksAt ops ∧ o.dst ≠ some d ∧ ∀ cs b, o.op ≠ .select cs b
theorem wpQuiet_putR {P : Program} {ops : Array Oper} {C : World → Prop} {d : Nat} {v : Value} {N N' : Act → Prop} (hN : ∀ a, N a → N' (a.put (some d) v)) : ∀ {l : List Oper} {a : Act}, (∀ o ∈ l, ClearOf ops d o) → wpQuiet P ops C N l a → wpQuiet P ops C N' l (a.put (some d) v)
 | [], a, _, h => hN a h
 | o :: l, a, hl, h => by
  obtain ⟨h1, h2, h3⟩ := hl o (List.mem_cons_self ..)
  have hl' : ∀ o ∈ l, ClearOf ops d o := fun o ho => hl o (List.mem_cons_of_mem _ ho)
  have hc : ∀ u, (a.put (some d) v).put o.dst u = (a.put o.dst u).put (some d) v := fun u => a.put_comm v u fun e he => by cases he; exact h2
  unfold wpQuiet at h ⊢
  rw [wanted_put o a (some d) v (fun e he => by cases he; exact h1)]
  split at h
  ·rename_i hw
   rw [if_pos hw]
   obtain ⟨u, q1, q2⟩ := h
   refine ⟨u, fun w hw => ?_, ?_⟩
   ·have := q1 w hw
    unfold Oper.quietAt at this ⊢
    rw [execOp_put (ops := ops) o h3 a (some d) v (fun e he => by cases he; exact h1)]
    exact this
   ·rw [hc]; exact wpQuiet_putR hN hl' q2
  ·rename_i hw
   rw [if_neg hw, hc]
   exact wpQuiet_putR hN hl' h
theorem wpList_putR {P : Program} {ops : Array Oper} {d : Nat} {v : Value} {Q Q' : Exit → Act → World → Prop} (hN : ∀ a w, Q .normal a w → Q' .normal (a.put (some d) v) w) (hQ : ∀ c a a' w, Q (.panic c) a w → Q' (.panic c) a' w) (hL : LetsOut Q → LetsOut Q') :
  ∀ {l : List Oper} {a : Act} {w : World}, (∀ o ∈ l, ClearOf ops d o) → wpList P ops Q l a w → wpList P ops Q' l (a.put (some d) v) w
 | [], a, w, _, h => hN a w h
 | o :: l, a, w, hl, h => by
  obtain ⟨h1, h2, h3⟩ := hl o (List.mem_cons_self ..)
  have hl' : ∀ o ∈ l, ClearOf ops d o := fun o ho => hl o (List.mem_cons_of_mem _ ho)
  have hc : ∀ (a : Act) u, (a.put (some d) v).put o.dst u = (a.put o.dst u).put (some d) v := fun a u => a.put_comm v u fun e he => by cases he; exact h2
  have he := execOp_put (ops := ops) o h3 a (some d) v (fun e he => by cases he; exact h1)
  unfold wpList at h ⊢
  rw [wanted_put o a (some d) v (fun e he => by cases he; exact h1)]
  split at h
  ·rename_i hw
   rw [if_pos hw]
   rcases h with h | ⟨hasks, hlets⟩
   case inr => exact .inr ⟨by unfold Oper.asks at *; rw [he]; exact hasks, hL hlets⟩
   refine .inl ?_
   unfold Oper.wp at *
   rw [he]
   generalize (execOp a.eval o).run P w = r at *
   cases r with
   | ok n w' =>
    cases n <;> simp only [Oper.upon] at h ⊢
    case value u => rw [hc]; exact wpList_putR hN hQ hL hl' h
    case skip => rw [hc]; exact wpList_putR hN hQ hL hl' h
    case defer x =>
     rw [Act.put_defers, hc]
     exact wpList_putR hN hQ hL hl' h
    case enter f args =>
     refine Calls.mono h fun e w'' he => ?_
     cases e with
     | returned u => show wpList P ops Q' l ((a.put (some d) v).put o.dst u) w''; rw [hc]; exact wpList_putR hN hQ hL hl' he
     | panicked c => exact hQ _ _ _ _ he
     | outgrown => exact hL he
    case row row args => exact Rows.mono h fun u w'' he => by rw [hc]; exact wpList_putR hN hQ hL hl' he
   | halt x w' =>
    cases x <;> simp only [Oper.upon] at h ⊢
    case panic u => exact hQ _ _ _ _ h
  ·rename_i hw
   rw [if_neg hw, hc]
   exact wpList_putR hN hQ hL hl' h
theorem AgainAll.putR {P : Program} {ops : Array Oper} {d : Nat} {v : Value} {l : List Oper} {a : Act} {w : World} (hl : ∀ o ∈ l, ClearOf ops d o) (h : AgainAll P ops a w l) : AgainAll P ops (a.put (some d) v) w l :=
 wpQuiet_putR (fun a' h => by rw [h]) hl h
def dropF (f : Nat) (p : Plan) : Plan := p.map fun x => (x.1, x.2.1.filter (fun i => !(Nat.beq i f)), x.2.2)
def mixF (P : Program) (ops : Array Oper) (Q : Exit → Act → World → Prop) (f : Nat) : Plan → Act → World → Prop
 | (b, [], k) :: ([], [c], kc) :: rest, a, w => wpQuiet P ops (Dr w) (fun a' => ∀ n,
   wpList P ops (Exit.then (fun a2 w2 => AgainAll P ops a2 w2 (pick ops k) ∧ mixWP P ops Q (dropF f (([], [c], kc) :: rest)) a2 w2) Q) (pick ops [f]) a' (w.drewN n)
   ∧ wpList P ops (Exit.then (fun a2 w2 => AgainAll P ops a2 w2 (pick ops kc) ∧ mixF P ops Q f rest a2 w2) Q) (pick ops [c]) a' (w.drewN n)) (pick ops b) a
 | p, a, w => mixWP P ops Q p a w
def flOf : Plan → Nat
 | (_, [], _) :: ([], [_], _) :: rest => flOf rest
 | (_, f :: _, _) :: _ => f
 | _ => 0
def earlyKs (p : Plan) : List Nat := (p.filterMap fun x => if x.2.1.isEmpty then some x.2.2 else none).flatten
def pdF (p : Plan) (f j : Nat) : List Nat := if j = f then earlyKs p ++ pendOf p j else pendOf p j
def mvB (ops : Array Oper) (tg : Nat → Bool) (listed : Array Bool) (k : Nat) : Bool := (List.range ops.size).all fun j => !(listed.getD j false) || tg j || !(waitsT ops j k)
def restB (ops : Array Oper) (tg : Nat → Bool) (pd : Nat → List Nat) (f : Nat) (listed : Array Bool) (k : List Nat) : Bool := ((pd f).all fun x => !(listed.getD x false) || !(mvB ops tg listed x) || k.contains x) && freshB (dsts (pick ops k))
def planF (ops : Array Oper) (tg : Nat → Bool) (pd : Nat → List Nat) (f : Nat) : Plan → Array Bool → Bool
 | (b, [], k) :: ([], [c], kc) :: rest, listed =>
  let l1 := markAll b listed
  blockB ops tg pd b listed && (!tg c && !tg f && (Region.ready .any ops l1).all (fun i => i == c || i == f) && !(Region.ready .any ops l1).isEmpty && (ops[c]?).isSome && (ops[f]?).isSome && !(c == f)) &&
   (decide (pd c = kc) && freshB (dsts (pick ops kc)) && restB ops tg pd f l1 k) &&
   (!rest.isEmpty && decide (planN (dropF f (([], [c], kc) :: rest)) = planN rest) && planB ops tg pd (dropF f (([], [c], kc) :: rest)) (l1.setIfInBounds f true)) && planF ops tg pd f rest (l1.setIfInBounds c true)
 | (b, [i], k) :: rest, listed =>
  let l1 := markAll b listed
  blockB ops tg pd b listed && (i == f && !tg f && decide (Region.ready .any ops l1 = [f]) && (ops[f]?).isSome && restB ops tg pd f l1 k && !rest.isEmpty) && planB ops tg pd rest (l1.setIfInBounds f true)
 | _, _ => false
def mixFB (ops : Array Oper) (p : Plan) : Bool := Region.noSelect ops && planF ops (quietOf p) (pdF p (flOf p)) (flOf p) p (Array.replicate ops.size false)
section
variable {P : Program} {ops : Array Oper} {Q : Exit → Act → World → Prop}
theorem wpOp_of_list {j : Nat} {o : Oper} (ho : ops[j]? = some o) {G : Act → World → Prop} {a : Act} {w : World} (h : wpList P ops (Exit.then G Q) (pick ops [j]) a w) : wpOp P ops Q j G a w := by
 have hpk : pick ops [j] = [o] := by unfold pick; rw [List.filterMap_cons_some ho]; rfl
 rw [hpk] at h
 unfold wpList at h
 unfold wpOp
 simp only [ho]
 split at h
 ·rename_i hw
  rw [if_pos hw]
  rcases h with h1 | ⟨hasks, a0, w0, hl⟩
  ·refine .inl ?_
   have h2 : o.wp P a w G (Exit.then G Q) := Oper.wp_mono (fun _ _ h => h) h1
   unfold Oper.wp at h2 ⊢
   generalize (execOp a.eval o).run P w = r at h2 ⊢
   cases r with
   | ok n w' =>
    cases n <;> simp only [Oper.upon] at h2 ⊢ <;>
     first
      | exact h2
      | exact Calls.mono h2 (fun e w'' he => by cases e <;> exact he)
   | halt x w' => cases x <;> simp only [Oper.upon] at h2 ⊢ <;> exact h2
  ·exact .inr ⟨hasks, a0, w0, hl⟩
 ·rename_i hw
  rw [if_neg hw]
  exact h
theorem restB_spec {tg : Nat → Bool} {pd : Nat → List Nat} {f : Nat} {listed : Array Bool} {k : List Nat} (h : restB ops tg pd f listed k = true) : freshB (dsts (pick ops k)) = true ∧ ∀ x ∈ pd f, listed.getD x false = true → Mv ops tg listed x → x ∈ k := by
 simp only [restB, Bool.and_eq_true, List.all_eq_true, Bool.or_eq_true, Bool.not_eq_true', List.contains_iff_mem] at h
 refine ⟨h.2, fun x hx hl hm => ?_⟩
 rcases h.1 x hx with (h1 | h1) | h1
 ·rw [hl] at h1; cases h1
 ·exfalso
  have : mvB ops tg listed x = true := by
   simp only [mvB, List.all_eq_true, List.mem_range, Bool.or_eq_true, Bool.not_eq_true']
   intro j _
   cases hj : listed.getD j false with
   | false => exact .inl (.inl rfl)
   | true => cases ht : tg j with
    | true => exact .inl (.inr rfl)
    | false => exact .inr (by simpa using hm j hj ht)
  rw [h1] at this
  cases this
 ·exact h1
theorem planF_M {tg : Nat → Bool} {pd : Nat → List Nat} {f : Nat} (hsel : Region.noSelect ops = true) (hQ : ∀ c a a' w, Q (.panic c) a w → Q (.panic c) a' w) : ∀ (pl : Plan) (listed : Array Bool) (a : Act) (w : World),
  planF ops tg pd f pl listed = true → Closed ops listed → mixF P ops Q f pl a w → wpAnyM P ops Q tg pd (planN pl) listed a (Dr w)
 | (b, [], k) :: ([], [c], kc) :: rest, listed, a, w, hB, hcl, h => by
  simp only [planF, Bool.and_eq_true, Bool.not_eq_true', decide_eq_true_eq] at hB
  obtain ⟨⟨⟨⟨hb, ⟨⟨⟨⟨⟨htc, htf⟩, hall⟩, hne⟩, hcs⟩, hfs⟩, hcf⟩, ⟨hkc, hfr⟩, hrk⟩, ⟨hre, hN⟩, hE⟩, hR⟩ := hB
  have hne' : rest ≠ [] := by simpa using hre
  obtain ⟨hfk, hrk⟩ := restB_spec hrk
  obtain ⟨oc, hoc⟩ := Option.isSome_iff_exists.1 hcs
  obtain ⟨of, hof⟩ := Option.isSome_iff_exists.1 hfs
  have hpn : planN ((b, [], k) :: ([], [c], kc) :: rest) = b.length + (planN rest + 1) := by simp [planN]; omega
  rw [hpn]
  refine wpAnyM_block hsel hQ ⟨w, Dr.self w⟩ b listed a hb hcl (fun a' hc' hn => ?_) h
  refine ⟨fun h0 => (by rw [h0] at hne; cases hne), fun j hj => ?_⟩
  have hjc := List.all_eq_true.1 hall j hj
  simp only [Bool.or_eq_true, beq_iff_eq] at hjc
  by_cases hjf : j = f
  ·subst hjf
   rw [htf]
   simp only [Bool.false_eq_true, if_false]
   rintro w' ⟨n, rfl⟩
   refine wpOp_mono (fun a2 w2 hg => ?_) (wpOp_of_list hof (hn n).1)
   refine ⟨Dr w2, Dr.self w2, fun x hx hl hm o ho => againAll_spec k hfk hg.1 x (hrk x hx hl hm) o ho, ?_⟩
   rw [← hN]
   exact planB_M hsel hQ _ _ a2 w2 (by simp [dropF]) hE (hc'.set hj) hg.2
  ·obtain rfl : j = c := hjc.resolve_right hjf
   rw [htc]
   simp only [Bool.false_eq_true, if_false]
   rintro w' ⟨n, rfl⟩
   refine wpOp_mono (fun a2 w2 hg => ?_) (wpOp_of_list hoc (hn n).2)
   refine ⟨Dr w2, Dr.self w2, fun x hx _ _ o ho => againAll_spec kc hfr hg.1 x (by rw [← hkc]; exact hx) o ho, ?_⟩
   exact planF_M hsel hQ rest _ a2 w2 hR (hc'.set hj) hg.2
 | (b, [i], k) :: rest, listed, a, w, hB, hcl, h => by
  simp only [planF, Bool.and_eq_true, Bool.not_eq_true', decide_eq_true_eq, beq_iff_eq] at hB
  obtain ⟨⟨hb, ⟨⟨⟨⟨rfl, htf⟩, hrd⟩, hfs⟩, hrk⟩, hre⟩, hE⟩ := hB
  have hne' : rest ≠ [] := by simpa using hre
  obtain ⟨hfk, hrk⟩ := restB_spec hrk
  obtain ⟨of, hof⟩ := Option.isSome_iff_exists.1 hfs
  have hpn : planN ((b, [i], k) :: rest) = b.length + (planN rest + 1) := by simp [planN]; omega
  rw [hpn]
  have h : mixWP P ops Q ((b, [i], k) :: rest) a w := by unfold mixF at h; exact h
  refine wpAnyM_block hsel hQ ⟨w, Dr.self w⟩ b listed a hb hcl (fun a' hc' hn => ?_) h
  have hir : i ∈ Region.ready .any ops (markAll b listed) := by rw [hrd]; simp
  refine ⟨fun h0 => absurd (hrd ▸ h0) (by simp), fun j hj => ?_⟩
  obtain rfl : j = i := by rw [hrd] at hj; simpa using hj
  rw [htf]
  simp only [Bool.false_eq_true, if_false]
  rintro w' ⟨n, rfl⟩
  refine wpOp_mono (fun a2 w2 hg => ?_) (wpOp_of_list hof (hn n))
  refine ⟨Dr w2, Dr.self w2, fun x hx hl hm o ho => againAll_spec k hfk hg.1 x (hrk x hx hl hm) o ho, ?_⟩
  exact planB_M hsel hQ rest _ a2 w2 hne' hE (hc'.set hj) hg.2
 | [], _, _, _, hB, _, _ => by simp [planF] at hB
 | [(b, [], k)], _, _, _, hB, _, _ => by simp [planF] at hB
 | (b, [], k) :: (x :: xs, e, kc) :: rest, _, _, _, hB, _, _ => by simp [planF] at hB
 | (b, [], k) :: ([], [], kc) :: rest, _, _, _, hB, _, _ => by simp [planF] at hB
 | (b, [], k) :: ([], c :: d :: e, kc) :: rest, _, _, _, hB, _, _ => by simp [planF] at hB
 | (b, i :: j :: e, k) :: rest, _, _, _, hB, _, _ => by simp [planF] at hB
theorem wp_region_mixF {id : Nat} {a : Act} {w : World} (p : Plan) (hm : P.follows .mixedOrders = true) (hB : (mixFB ops p && decide (planN p = ops.size)) = true)
  (h : mixF P ops (NoPanic Q) (flOf p) p a w) : (Code.region id ops true).wp P Q a w := by
 simp only [Bool.and_eq_true, mixFB, decide_eq_true_eq] at hB
 obtain ⟨⟨hs, hp⟩, hn⟩ := hB
 refine wp_region_noPanic (wp_region_any hm (wpAny_of_M (tag := quietOf p) (pend := pdF p (flOf p)) _ _ _ (Dr w) _ ⟨1, rfl⟩ ?_))
 rw [← hn]
 exact planF_M hs (fun c a a' w h => (h : False).elim) p _ a _ (by rw [hn]; exact hp) (closed_none _) h
end
theorem quiet_add {P : Program} {f : FuncId} {args : Array Value} {w : World} {a n : Nat} {v : Value}
  (h : Calls P f args (w.drewN (a + n)) fun e w' => e = .returned v ∧ ∃ m, w' = (w.drewN (a + n)).drewN m) :
  Calls P f args (w.drewN (a + n)) fun e w'' => e = .returned v ∧ ∃ m, w'' = w.drewN (a + m) :=
 h.mono fun _ _ ⟨he, m, hm⟩ => ⟨he, n + m, by rw [hm, World.drewN_drewN, Nat.add_assoc]⟩
end Go.Proofs.YtooebogidjejoaaGreat

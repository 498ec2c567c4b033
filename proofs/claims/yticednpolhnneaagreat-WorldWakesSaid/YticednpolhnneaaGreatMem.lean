/-
  Memory words: a block known whole, bytes that a slice reads as, what a call leaves alone. No program.
-/
import Derived.WalkKit
import Derived.WalkSpells
import Derived.WalkLawsBesides
import Derived.RegionTactic
import Derived.ChangeAlike
import Derived.Deep.QuietTactic
import Derived.BigQuiet
import Derived.Lib.Hide
import Derived.Laws.CopyOwn
import Derived.Deep.RegionHeld3
import Derived.Deep.AppendLies
import Derived.Maps.AppendAt
import Derived.Laws.AppendOwnNone
set_option linter.unusedVariables false
set_option linter.unusedSimpArgs false
namespace Go.Proofs.YticednpolhnneaaGreat
open Go.RowKit

/-- a byte as a cell's value -/
def bv (x : UInt8) : Value := .int .u8 (x.toNat : Int)

/-- a block that is known whole, not frozen -/
def Blk (w : World) (b : Nat) (l : List Value) (t : TypeId) : Prop := w.heap[b]? = some (.cells l.toArray t (0, 0))

/-- what lies below the heap's size and is none of L is as it was -/
structure Kp (L : List Nat) (w w' : World) : Prop where
  os : w'.os = w.os
  tape : w'.tape = w.tape
  output : w'.output = w.output
  size : w.heap.size ≤ w'.heap.size
  block : ∀ k, k < w.heap.size → k ∉ L → w'.heap[k]? = w.heap[k]?

theorem Kp.refl (L : List Nat) (w : World) : Kp L w w := ⟨rfl, rfl, rfl, Nat.le_refl _, fun _ _ _ => rfl⟩

theorem Kp.trans' {L L1 L2 : List Nat} {a b c : World} (h : Kp L1 a b) (k : Kp L2 b c) (h1 : ∀ i, i ∈ L1 → i ∈ L ∨ a.heap.size ≤ i) (h2 : ∀ i, i ∈ L2 → i ∈ L ∨ a.heap.size ≤ i) : Kp L a c :=
  ⟨k.os.trans h.os, k.tape.trans h.tape, k.output.trans h.output, Nat.le_trans h.size k.size, fun i hi hn =>
    (k.block i (Nat.lt_of_lt_of_le hi h.size) (fun hm => (h2 i hm).elim hn (by omega))).trans (h.block i hi (fun hm => (h1 i hm).elim hn (by omega)))⟩

theorem Kp.trans {L : List Nat} {a b c : World} (h : Kp L a b) (k : Kp L b c) : Kp L a c := h.trans' k (fun _ h => .inl h) (fun _ h => .inl h)

theorem Kp.mono {L L' : List Nat} {w w' : World} (h : Kp L w w') (hs : ∀ i, i ∈ L → i ∈ L' ∨ w.heap.size ≤ i) : Kp L' w w' :=
  ⟨h.os, h.tape, h.output, h.size, fun k hk hn => h.block k hk (fun hm => (hs k hm).elim hn (by omega))⟩

theorem Kp.drew {L : List Nat} {a w : World} (h : Kp L a w) : Kp L a w.drew := ⟨h.os, h.tape, h.output, h.size, h.block⟩
theorem Kp.drewN {L : List Nat} {a w : World} (h : Kp L a w) (n : Nat) : Kp L a (w.drewN n) := ⟨h.os, h.tape, h.output, h.size, h.block⟩

theorem Kp.alloc {L : List Nat} {a w : World} (h : Kp L a w) (o : Obj) : Kp L a (w.alloc o) :=
  ⟨h.os, h.tape, h.output, Nat.le_trans h.size (by simp), fun k hk hn => (Below.heap_alloc _ _ _ (Nat.lt_of_lt_of_le hk h.size)).trans (h.block k hk hn)⟩

theorem Kp.setCell {L : List Nat} {a w : World} (h : Kp L a w) {p : Addr} (hp : p.block ∈ L ∨ a.heap.size ≤ p.block) (u : Value) : Kp L a (w.setCell p u) :=
  ⟨h.os, h.tape, h.output, Nat.le_trans h.size (by simp [World.setCell]), fun k hk hn =>
    (Below.heap_setCell _ _ _ _ (by rintro rfl; exact hp.elim hn (by omega))).trans (h.block k hk hn)⟩

theorem Kp.setRow {L : List Nat} {a w : World} (h : Kp L a w) {g : Nat} (hp : g ∈ L ∨ a.heap.size ≤ g) (cs : Array Value) : Kp L a (w.setRow g cs) :=
  ⟨h.os, h.tape, h.output, Nat.le_trans h.size (by simp [World.setRow]), fun k hk hn =>
    (setRow_other w g k cs (by rintro rfl; exact hp.elim hn (by omega))).trans (h.block k hk hn)⟩

theorem Kp.grown {L : List Nat} {a w w' : World} {row : Option Nat} (h : Kp L a w) (hg : w.grownBy w' row) (hr : ∀ k, row = some k → k ∈ L ∨ a.heap.size ≤ k) : Kp L a w' :=
  ⟨hg.os.trans h.os, hg.tape.trans h.tape, hg.output.trans h.output, Nat.le_trans h.size hg.size, fun k hk hn =>
    (hg.block k (Nat.lt_of_lt_of_le hk h.size) (fun e => (hr k e.symm).elim hn (by omega))).trans (h.block k hk hn)⟩

theorem Kp.cell {L : List Nat} {w w' : World} (h : Kp L w w') {p : Addr} {v : Value} (hv : w.cell? p = some v) (hn : p.block ∉ L) : w'.cell? p = some v :=
  (World.cell?_of_block (w := w) (h.block p.block (World.block_lt_of_cell? w p hv) hn)).trans hv

theorem Blk.lt {w : World} {b : Nat} {l : List Value} {t : TypeId} (h : Blk w b l t) : b < w.heap.size := (Array.getElem?_eq_some_iff.1 h).1

theorem Kp.blk {L : List Nat} {w w' : World} (h : Kp L w w') {b : Nat} {l : List Value} {t : TypeId} (hb : Blk w b l t) (hn : b ∉ L) : Blk w' b l t :=
  (h.block b hb.lt hn).trans hb

theorem Blk.cell {w : World} {b off : Nat} {l : List Value} {t : TypeId} {v : Value} (h : Blk w b l t) (hv : l[off]? = some v) : w.cell? ⟨b, off, none⟩ = some v := by
  unfold Blk at h
  simp [World.cell?, h, hv]

theorem Blk.frozen {w : World} {b : Nat} {l : List Value} {t : TypeId} (h : Blk w b l t) (off : Nat) : w.frozen? ⟨b, off, none⟩ = false := by
  unfold Blk at h
  simp [World.frozen?, h]

theorem Blk.drew {w : World} {b : Nat} {l : List Value} {t : TypeId} (h : Blk w b l t) : Blk w.drew b l t := h
theorem Blk.drewN {w : World} {b : Nat} {l : List Value} {t : TypeId} (h : Blk w b l t) (n : Nat) : Blk (w.drewN n) b l t := h
theorem Blk.alloc {w : World} {b : Nat} {l : List Value} {t : TypeId} (h : Blk w b l t) (o : Obj) : Blk (w.alloc o) b l t := (Below.heap_alloc w o b h.lt).trans h
theorem Blk.new (w : World) (l : List Value) (t : TypeId) : Blk (w.alloc (.cells l.toArray t)) w.heap.size l t := heap_alloc_new w _
theorem Blk.set {w : World} {b : Nat} {l : List Value} {t : TypeId} (h : Blk w b l t) (off : Nat) (v : Value) : Blk (w.setCell ⟨b, off, none⟩ v) b (l.set off v) t := by
  unfold Blk at h ⊢
  simp [World.setCell, Array.getElem?_modify, h]
theorem Blk.other {w : World} {b : Nat} {l : List Value} {t : TypeId} (h : Blk w b l t) {a : Addr} (hn : a.block ≠ b) (v : Value) : Blk (w.setCell a v) b l t :=
  (Below.heap_setCell w a v b (fun e => hn e.symm)).trans h

/-- the slice value v reads as the bytes l -/
def Byt (w : World) (v : Value) (l : List UInt8) : Prop :=
  (∃ p c, v = .slice p 0 c ∧ (p = none → c = 0) ∧ c ≤ maxLen ∧ l = []) ∨ ∃ b off cap, v = .slice (some ⟨b, off, none⟩) l.length cap ∧ l.length ≤ cap ∧ cap ≤ maxLen ∧ ∀ i, i < l.length → w.cell? ⟨b, off + i, none⟩ = some (bv (l.getD i 0))


theorem Byt.cases {w : World} {v : Value} {l : List UInt8} (h : Byt w v l) :
    ∃ p cap, v = .slice p l.length cap ∧ l.length ≤ maxLen ∧ (l = [] ∨ ∃ b off, p = some ⟨b, off, none⟩ ∧ ∀ i, i < l.length → w.cell? ⟨b, off + i, none⟩ = some (bv (l.getD i 0))) := by
  rcases h with ⟨p, c, rfl, _, _, rfl⟩ | ⟨b, off, cap, rfl, hc, hm, hb⟩
  · exact ⟨p, c, rfl, Nat.zero_le _, .inl rfl⟩
  · exact ⟨_, cap, rfl, Nat.le_trans hc hm, .inr ⟨b, off, rfl, hb⟩⟩

theorem Byt.drewN {w : World} {v : Value} {l : List UInt8} (h : Byt w v l) (n : Nat) : Byt (w.drewN n) v l := h

def sameTo (a b : List UInt8) : Bool := decide (a = b)

theorem take_next {l1 l2 : List UInt8} {k : Nat} {x y : UInt8} (h1 : k < l1.length) (h2 : k < l2.length) (hx : l1.getD k 0 = x) (hy : l2.getD k 0 = y) (h : l1.take k = l2.take k) (e : ((x.toNat : Int) != (y.toNat : Int)) = false) : l1.take (k + 1) = l2.take (k + 1) := by
  simp only [bne_eq_false_iff_eq] at e
  have e' : x = y := UInt8.toNat_inj.1 (by omega)
  subst e'
  rw [List.take_succ_eq_append_getElem h1, List.take_succ_eq_append_getElem h2, h]
  simp [List.getD, h1, h2] at hx hy
  rw [hx, hy]

theorem sameTo_no {l1 l2 : List UInt8} {k : Nat} {x y : UInt8} (hx : l1.getD k 0 = x) (hy : l2.getD k 0 = y) (e : ((x.toNat : Int) != (y.toNat : Int)) = true) : sameTo l1 l2 = false := by
  unfold sameTo
  rw [decide_eq_false_iff_not]
  rintro rfl
  rw [hx] at hy
  subst hy
  simp at e

theorem sameTo_len {l1 l2 : List UInt8} (h : ¬ l1.length = l2.length) : sameTo l1 l2 = false := by
  unfold sameTo
  rw [decide_eq_false_iff_not]
  rintro rfl
  exact h rfl

theorem sameTo_all {l1 l2 : List UInt8} {k : Nat} (hk : k ≤ l1.length) (hn : ¬ k < l1.length) (hl : l1.length = l2.length) (h : l1.take k = l2.take k) : sameTo l1 l2 = true := by
  unfold sameTo
  rw [decide_eq_true_iff]
  rw [List.take_of_length_le (by omega), List.take_of_length_le (by omega)] at h
  exact h

/-- copy(d, s), the destination's block known whole: one step of a region -/
theorem step_copy_mem {P : Program} {ops : Array Oper} {o : Oper} {a : Act} {w : World} {K : Act → World → Prop} {Q : Exit → Act → World → Prop} {E : Prop} (hgd : o.guard = none) (d s : Operand) (dT sT : TypeId)
    (ho : o.op = .call { callee := .builtin .copy, args := #[d, s], argTypes := #[dT, sT] }) (elem : TypeId) (hu : P.underlying dT = some (.slice elem)) (hsz : (P.info? elem).map (·.size) = some 1)
    (dp sp : Option Addr) (dLen dCap sLen sCap : Nat) (hd : a.eval d = .slice dp dLen dCap) (hs : a.eval s = .slice sp sLen sCap)
    (g off : Nat) (cur : List Value) (t : TypeId) (hg : Blk w g cur t) (cs : List Value) (hn : cs.length = Nat.min sLen dLen)
    (hpos : 0 < cs.length → dp = some ⟨g, off, none⟩ ∧ ∃ b o2, sp = some ⟨b, o2, none⟩ ∧ ∀ j v, cs[j]? = some v → w.cell? ⟨b, o2 + j, none⟩ = some v)
    (hfit : off + cs.length ≤ cur.length) (h1 : ∀ v ∈ cs, v.oneCell' = true)
    (h : ∀ w', Blk w' g (splice cur off cs) t → Kp [g] w w' → K (a.put o.dst (.int .i64 cs.length)) w') :
    if Region.wanted o (yielded ops a.tmps) = true then Oper.wp P o a w K Q else E := by
  have hw : Region.wanted o (yielded ops a.tmps) = true := by simp [Region.wanted, hgd]
  rw [if_pos hw]
  by_cases h0 : cs.length = 0
  · obtain rfl : cs = [] := List.eq_nil_of_length_eq_zero h0
    have hrun := run_copy_none (P := P) w dT sT o.type elem dp sp dLen dCap sLen sCap hu hsz (by simpa using hn.symm)
    unfold Oper.wp
    simp [execOp, ho, resolve, invoke, builtin, hd, hs, hrun, Result.andThen]
    exact h w (by simpa [splice] using hg) (Kp.refl _ _)
  · obtain ⟨rfl, b, o2, rfl, hsrc⟩ := hpos (by omega)
    have hrun := run_copy_row (P := P) w dT sT o.type elem g off dLen dCap ⟨b, o2, none⟩ sLen sCap cur.toArray t cs hu hsz hg hn (fun j v hj => by have := hsrc j v hj; have e : (⟨b, o2, none⟩ : Addr).add j = ⟨b, o2 + j, none⟩ := by { unfold Addr.add; split <;> simp_all }; rw [e]; exact this) (by simpa using hfit) h1
    unfold Oper.wp
    simp [execOp, ho, resolve, invoke, builtin, hd, hs, hrun, Result.andThen]
    exact h _ (show _ = _ by simpa [splice] using setRow_heap w g _ _ t _ hg) ((Kp.refl _ _).setRow (.inl (by simp)) _)

theorem bv_one (l : List UInt8) : ∀ v ∈ l.map bv, v.oneCell' = true := by
  intro v hv
  obtain ⟨x, _, rfl⟩ := List.mem_map.1 hv
  rfl

theorem map_splice (L cs : List UInt8) (off : Nat) : splice (L.map bv) off (cs.map bv) = (splice L off cs).map bv := by
  unfold splice; simp

theorem getElem_bv {l : List UInt8} {j : Nat} {v : Value} (h : (l.map bv)[j]? = some v) : j < l.length ∧ v = bv (l.getD j 0) := by
  simp only [List.getElem?_map, Option.map_eq_some_iff] at h
  obtain ⟨x, hx, rfl⟩ := h
  have := (List.getElem?_eq_some_iff.1 hx).1
  exact ⟨this, by simp [List.getD_eq_getElem?_getD, hx]⟩

theorem wpList_copy_mem {P : Program} {ops : Array Oper} {rest : List Oper} {o : Oper} {a : Act} {w : World} {Q : Exit → Act → World → Prop} (hgd : o.guard = none) (d s : Operand) (dT sT : TypeId)
    (ho : o.op = .call { callee := .builtin .copy, args := #[d, s], argTypes := #[dT, sT] }) (elem : TypeId) (hu : P.underlying dT = some (.slice elem)) (hsz : (P.info? elem).map (·.size) = some 1)
    (dp sp : Option Addr) (dLen dCap sLen sCap : Nat) (hd : a.eval d = .slice dp dLen dCap) (hs : a.eval s = .slice sp sLen sCap)
    (g off : Nat) (cur : List UInt8) (t : TypeId) (hg : Blk w g (cur.map bv) t) (cs : List UInt8) (n : Nat) (hcs : cs.length = n) (hn : n = min sLen dLen)
    (hpos : 0 < n → dp = some ⟨g, off, none⟩ ∧ ∃ b o2, sp = some ⟨b, o2, none⟩ ∧ ∀ j, j < n → w.cell? ⟨b, o2 + j, none⟩ = some (bv (cs.getD j 0)))
    (hfit : off + n ≤ cur.length)
    (h : ∀ w', Blk w' g ((splice cur off cs).map bv) t → Kp [g] w w' → wpList P ops Q rest (a.put o.dst (.int .i64 n)) w') : wpList P ops Q (o :: rest) a w := by
  subst hcs
  unfold wpList
  by_cases hw : Region.wanted o (yielded ops a.tmps) = true
  case neg => exact absurd (by simp [Region.wanted, hgd]) hw
  rw [if_pos hw]
  refine .inl ?_
  have := step_copy_mem (P := P) (ops := ops) (o := o) (a := a) (w := w) (K := wpList P ops Q rest) (Q := Q) (E := True) hgd d s dT sT ho elem hu hsz dp sp dLen dCap sLen sCap hd hs g off (cur.map bv) t hg (cs.map bv) (by simpa using hn)
    (fun h0 => by
      obtain ⟨h1, b, o2, h2, h3⟩ := hpos (by simpa using h0)
      exact ⟨h1, b, o2, h2, fun j v hv => by obtain ⟨hj, rfl⟩ := getElem_bv hv; exact h3 j hj⟩) (by simpa using hfit) (bv_one _)
    (fun w' hb' hk' => by rw [map_splice] at hb'; simpa using h w' hb' hk')
  rw [if_pos hw] at this
  exact this

/-- make([]byte, n) -/
theorem wpList_make_bytes {P : Program} {ops : Array Oper} {rest : List Oper} {o : Oper} {a : Act} {w : World} {Q : Exit → Act → World → Prop}
    (hg : o.guard = none) (l c : Operand) (t : TypeId) (hop : o.op = Op.makeSlice t l c)
    (e : TypeId) (h1 : P.underlying t = some (.slice e)) (h2 : (P.info? e).map (fun i => (i.zero, i.size, i.bytes)) = some (some (.int .u8 0), 1, 1))
    (L C : Int) (n : Nat) (hl : a.eval l = .int .i64 L) (hc : a.eval c = .int .i64 C) (hL : L = (n : Int)) (hC : C = (n : Int)) (hn : n ≤ 140737488355328)
    (hK : ∀ w', Blk w' w.heap.size ((List.replicate n (0 : UInt8)).map bv) e → Kp [] w w' → w'.heap.size = w.heap.size + 1 →
      wpList P ops Q rest (a.put o.dst (.slice (some ⟨w.heap.size, 0, none⟩) n n)) w') :
    wpList P ops Q (o :: rest) a w := by
  refine wpList_plain hg fun K hK' => ?_
  subst hL
  subst hC
  obtain ⟨i, hi, hz, hsz, hby⟩ := info_parts h2
  have hrun := run_make (P := P) w t e i (.int .u8 0) h1 hi hz .i64 .i64 n n (by omega) (by omega) (by rw [hby]; omega) (by omega)
  unfold Oper.wp
  simp [execOp, hop, hl, hc, hrun, Result.andThen, hsz]
  refine hK' _ _ (hK _ ?_ ((Kp.refl _ _).alloc _) (by simp))
  have e1 : madeCells (Value.int .u8 0).cells n = ((List.replicate n (0 : UInt8)).map bv).toArray := by
    unfold madeCells
    apply Array.ext
    · simp
    · intro k hk1 hk2
      simp [bv, Value.cells, Nat.mod_one]
  rw [e1]
  exact Blk.new _ _ _

theorem getElem_of_bv {l : List UInt8} {j : Nat} (h : j < l.length) : (l.map bv)[j]? = some (bv (l.getD j 0)) := by
  simp [List.getD_eq_getElem?_getD, h]

theorem own_of_blk {w : World} {g base : Nat} {l : List UInt8} {t : TypeId} (h : Blk w g (l.map bv) t) (hb : base ≤ g) (hm : l.length ≤ maxLen) :
    w.ownsRow base t 1 (.slice (some ⟨g, 0, none⟩) l.length l.length) l.length (l.map bv) :=
  ⟨by simp, .inr ⟨g, l.length, _, rfl, hb, h, Nat.le_refl _, hm, by simp, by rw [Nat.mul_one]; exact List.take_of_length_le (by simp)⟩⟩

theorem splice_fill {A B : List UInt8} {k m : Nat} (hA : A.length = k) (hB : B.length = m - k) (hk : k ≤ m) : splice (splice (List.replicate m (0 : UInt8)) 0 A) k B = A ++ B := by
  unfold splice
  subst hA
  simp only [List.take_zero, Nat.zero_add, List.nil_append, List.drop_replicate, List.take_left', List.length_append, List.length_replicate]
  rw [List.drop_of_length_le (by simp; omega)]
  simp

theorem ret_bool {a b : Bool} (h : a = b) : Ending.returned (.bool a) = .returned (.bool b) := by rw [h]

/-- the slice value v owns the bytes l, at the head of a block from base on -/
def OwnB (w : World) (base : Nat) (e : TypeId) (v : Value) (l : List UInt8) : Prop := w.ownsRow base e 1 v l.length (l.map bv)

/-- the block that a slice value lies in -/
def ob (v : Value) : List Nat := v.ownBlock.toList

theorem add_lit (b o j : Nat) : (⟨b, o, none⟩ : Addr).add j = ⟨b, o + j, none⟩ := by unfold Addr.add; split <;> simp_all

theorem OwnB.shape {w : World} {base : Nat} {e : TypeId} {v : Value} {l : List UInt8} (h : OwnB w base e v l) : ∃ p c, v = .slice p l.length c ∧ l.length ≤ maxLen ∧ l.length ≤ c := by
  rcases h.2 with ⟨rfl, h0⟩ | ⟨g, cap, cur, rfl, _, _, hc, hm, _⟩
  · exact ⟨none, 0, by rw [h0], by omega, by omega⟩
  · exact ⟨_, cap, rfl, Nat.le_trans hc hm, hc⟩

theorem OwnB.byt {w : World} {base : Nat} {e : TypeId} {v : Value} {l : List UInt8} (h : OwnB w base e v l) : Byt w v l := by
  have h0 := h
  rcases h.2 with ⟨rfl, hz⟩ | ⟨g, cap, cur, rfl, _, _, hc, hm, _⟩
  · exact .inl ⟨none, 0, rfl, fun _ => rfl, Nat.zero_le _, List.eq_nil_of_length_eq_zero hz⟩
  · refine .inr ⟨g, 0, cap, rfl, hc, hm, fun i hi => ?_⟩
    have := World.ownsRow.cells (g := g) h0 rfl i _ (getElem_of_bv hi)
    rwa [add_lit] at this

theorem OwnB.drewN {w : World} {base : Nat} {e : TypeId} {v : Value} {l : List UInt8} (h : OwnB w base e v l) (n : Nat) : OwnB (w.drewN n) base e v l := h
theorem OwnB.mono {w : World} {base base' : Nat} {e : TypeId} {v : Value} {l : List UInt8} (h : OwnB w base e v l) (hb : base' ≤ base) : OwnB w base' e v l := by
  refine ⟨h.1, ?_⟩
  rcases h.2 with h | ⟨g, cap, cur, h1, h2, h3⟩
  · exact .inl h
  · exact .inr ⟨g, cap, cur, h1, Nat.le_trans hb h2, h3⟩
theorem OwnB.lt {w : World} {base : Nat} {e : TypeId} {v : Value} {l : List UInt8} (h : OwnB w base e v l) : ∀ k, k ∈ ob v → base ≤ k ∧ k < w.heap.size := by
  intro k hk
  exact World.ownsRow.lt h k (by simpa [ob] using hk)
theorem OwnB.kp {w w' : World} {base : Nat} {e : TypeId} {v : Value} {l : List UInt8} {L : List Nat} (h : OwnB w base e v l) (k : Kp L w w') (hd : ∀ i, i ∈ ob v → i ∉ L) : OwnB w' base e v l := by
  refine ⟨h.1, ?_⟩
  rcases h.2 with h | ⟨g, cap, cur, h1, h2, h3, h4⟩
  · exact .inl h
  · refine .inr ⟨g, cap, cur, h1, h2, ?_, h4⟩
    rw [k.block g (Array.getElem?_eq_some_iff.1 h3).1 (hd g (by rw [h1]; simp [ob, Value.ownBlock]))]
    exact h3

theorem kp_of_grown {w w' : World} {v : Value} (h : w.grownBy w' v.ownBlock) : Kp (ob v) w w' :=
  ⟨h.os, h.tape, h.output, h.size, fun k hk hn => h.block k hk (fun e => hn (by simp [ob, ← e]))⟩

theorem run_append_bytes {P : Program} {w : World} {t ty e : TypeId} {base : Nat} (hu : P.underlying t = some (.slice e)) (hinfo : (P.info? e).map (fun i => (i.zero, i.size, i.bytes)) = some (some (.int .u8 0), 1, 1))
    {v sv : Value} {l l2 : List UInt8} (hown : OwnB w base e v l) (hsrc : Byt w sv l2) (hlen : l.length + l2.length ≤ 140737488355328) (hbase : base ≤ w.heap.size) :
    ∃ p c w', (Builtin.append_ #[t, t] ty #[v, sv]).run P w = .ok (.slice p (l.length + l2.length) c) w' ∧ OwnB w' base e (.slice p (l.length + l2.length) c) (l ++ l2) ∧ Kp (ob v) w w' ∧
      (ob (.slice p (l.length + l2.length) c) = ob v ∨ ob (.slice p (l.length + l2.length) c) = [w.heap.size]) := by
  obtain ⟨i, hi, hz, hsz, hby⟩ := info_parts hinfo
  have h63 : l.length + l2.length ≤ maxLen := by unfold maxLen; omega
  rcases hsrc with ⟨q, k, rfl, hq, _, rfl⟩ | ⟨b, off, cap, rfl, _, _, hc⟩
  · cases q with
    | none =>
      obtain rfl := hq rfl
      have hrun := run_append_owned_none (P := P) (w := w) base t ty e i 1 hu hi v l.length (l.map bv) hown
      obtain ⟨p, c, rfl, _⟩ := hown.shape
      refine ⟨p, c, w, hrun, by simpa using hown, Kp.refl _ _, .inl (by simp)⟩
    | some a =>
      obtain ⟨v', w', hr, h2, h3, _, h5⟩ := run_append_own_at (P := P) w base t ty e i (.int .u8 0) 1 1 hu hi hz hsz hby rfl (by omega) v l.length (l.map bv) hown a 0 k [] rfl
        (fun j u hj => by simp at hj) (by simp) h63 (by omega) hbase
      have h2' : OwnB w' base e v' (l ++ []) := by unfold OwnB; simpa using h2
      obtain ⟨p, c, rfl, _⟩ := h2'.shape
      simp only [List.length_append] at hr h2' h5
      exact ⟨p, c, w', hr, h2', kp_of_grown h3, by rcases h5 with h5 | h5; exact .inl (by unfold ob; rw [h5]); exact .inr (by unfold ob; rw [h5]; rfl)⟩
  · obtain ⟨v', w', hr, h2, h3, _, h5⟩ := run_append_own_at (P := P) w base t ty e i (.int .u8 0) 1 1 hu hi hz hsz hby rfl (by omega) v l.length (l.map bv) hown ⟨b, off, none⟩ l2.length cap (l2.map bv) (by simp)
      (fun j u hj => by obtain ⟨hj', rfl⟩ := getElem_bv hj; rw [add_lit]; exact hc j hj') (bv_one _) h63 (by omega) hbase
    have h2' : OwnB w' base e v' (l ++ l2) := by unfold OwnB; simpa using h2
    obtain ⟨p, c, rfl, _⟩ := h2'.shape
    simp only [List.length_append] at hr h2' h5
    exact ⟨p, c, w', hr, h2', kp_of_grown h3, by rcases h5 with h5 | h5 <;> simp [ob, h5]⟩

/-- the block of an address -/
def obp : Option Addr → List Nat
  | some a => [a.block]
  | none => []
theorem ob_slice (p : Option Addr) (n c : Nat) : ob (.slice p n c) = obp p := by cases p <;> rfl

/-- append(s, x...) at bytes of the call's own -/
theorem wpList_append_bytes {P : Program} {ops : Array Oper} {rest : List Oper} {o : Oper} {a : Act} {w : World} {Q : Exit → Act → World → Prop} (hgd : o.guard = none) (s x : Operand) (t : TypeId)
    (ho : o.op = .call { callee := .builtin .append, args := #[s, x], argTypes := #[t, t] }) (e : TypeId)
    (hu : P.underlying t = some (.slice e)) (hinfo : (P.info? e).map (fun i => (i.zero, i.size, i.bytes)) = some (some (.int .u8 0), 1, 1))
    (base : Nat) {p0 p1 : Option Addr} {c0 c1 n m : Nat} (l l2 l3 : List UInt8) (N : Nat) (hs : a.eval s = .slice p0 n c0) (hx : a.eval x = .slice p1 m c1) (hown : OwnB w base e (.slice p0 n c0) l) (hsrc : Byt w (.slice p1 m c1) l2)
    (hl3 : l ++ l2 = l3) (hN : n + m = N) (hlen : N ≤ 140737488355328) (hbase : base ≤ w.heap.size)
    (h : ∀ p c w', OwnB w' base e (.slice p N c) l3 → Kp (obp p0) w w' → (obp p = obp p0 ∨ obp p = [w.heap.size]) →
      wpList P ops Q rest (a.put o.dst (.slice p N c)) w') : wpList P ops Q (o :: rest) a w := by
  refine wpList_plain hgd fun K hK => ?_
  subst hN
  subst hl3
  obtain rfl : n = l.length := by obtain ⟨_, _, h1, _⟩ := hown.shape; simp at h1; exact h1.2.1
  obtain rfl : m = l2.length := by obtain ⟨_, _, h1, _⟩ := hsrc.cases; simp at h1; exact h1.2.1
  obtain ⟨p, c, w', hr, h2, h3, h4⟩ := run_append_bytes (P := P) (ty := o.type) hu hinfo hown hsrc hlen hbase
  simp only [ob_slice] at h3 h4
  unfold Oper.wp execOp
  simp only [ho, resolve, invoke, builtin, Sem.run_bind, Sem.run_pure, Result.andThen_ok, List.map_toArray, List.map_cons, List.map_nil, hs, hx, hr]
  exact hK _ _ (h p c w' h2 h3 h4)

/-- append(s, x...) at elements of several cells, the source a block known whole -/
theorem wpList_append_row {P : Program} {ops : Array Oper} {rest : List Oper} {o : Oper} {a : Act} {w : World} {Q : Exit → Act → World → Prop} (hgd : o.guard = none) (s x : Operand) (t : TypeId)
    (ho : o.op = .call { callee := .builtin .append, args := #[s, x], argTypes := #[t, t] }) (e : TypeId)
    (hu : P.underlying t = some (.slice e)) {z : Value} {size bytes : Nat} (hinfo : (P.info? e).map (fun i => (i.zero, i.size, i.bytes)) = some (some z, size, bytes)) (hzs : z.cells.size = size) (hsz : 0 < size)
    (base : Nat) {p0 : Option Addr} {c0 n m g c1 : Nat} (xs news : List Value) (t' : TypeId) (N : Nat) (hs : a.eval s = .slice p0 n c0) (hx : a.eval x = .slice (some ⟨g, 0, none⟩) m c1) (hown : w.ownsRow base e size (.slice p0 n c0) n xs)
    (hsrc : Blk w g news t') (hl : news.length = m * size) (h1 : ∀ u ∈ news, u.oneCell' = true) (hN : n + m = N) (hlen : N * bytes ≤ 140737488355328) (hmx : N ≤ maxLen) (hbase : base ≤ w.heap.size)
    (h : ∀ p c w', w'.ownsRow base e size (.slice p N c) N (xs ++ news) → Kp (obp p0) w w' → (obp p = obp p0 ∨ obp p = [w.heap.size]) →
      wpList P ops Q rest (a.put o.dst (.slice p N c)) w') : wpList P ops Q (o :: rest) a w := by
  refine wpList_plain hgd fun K hK => ?_
  subst hN
  obtain ⟨i, hi, hz, hsz', hby⟩ := info_parts hinfo
  obtain ⟨v', w', hr, h2, h3, _, h5⟩ := run_append_own_at (P := P) w base t o.type e i z size bytes hu hi hz hsz' hby hzs hsz (.slice p0 n c0) n xs hown ⟨g, 0, none⟩ m c1 news hl
    (fun j u hj => by rw [add_lit, Nat.zero_add]; exact hsrc.cell hj) h1 hmx hlen hbase
  have hsh : ∃ p c, v' = .slice p (n + m) c := by
    rcases h2.2 with ⟨rfl, h0⟩ | ⟨g', cap, cur, rfl, _⟩
    · exact ⟨none, 0, by rw [h0]⟩
    · exact ⟨_, _, rfl⟩
  obtain ⟨p, c, rfl⟩ := hsh
  have h5' : obp p = obp p0 ∨ obp p = [w.heap.size] := by
    rw [← ob_slice p (n + m) c, ← ob_slice p0 n c0]
    rcases h5 with h5 | h5 <;> simp [ob, h5]
  have h3' : Kp (obp p0) w w' := by rw [← ob_slice p0 n c0]; exact kp_of_grown h3
  unfold Oper.wp execOp
  simp only [ho, resolve, invoke, builtin, Sem.run_bind, Sem.run_pure, Result.andThen_ok, List.map_toArray, List.map_cons, List.map_nil, hs, hx, hr]
  exact hK _ _ (h p c w' h2 h3' h5')

theorem cell_alloc {w : World} {p : Addr} {v : Value} (h : w.cell? p = some v) (o : Obj) : (w.alloc o).cell? p = some v := by
  exact (World.cell?_of_block (w := w) (Below.heap_alloc w o p.block (World.block_lt_of_cell? w p h))).trans h

theorem row_kp {w w' : World} {base : Nat} {e : TypeId} {size n : Nat} {v : Value} {xs : List Value} {L : List Nat} (h : w.ownsRow base e size v n xs) (k : Kp L w w') (hd : ∀ i, i ∈ ob v → i ∉ L) : w'.ownsRow base e size v n xs := by
  refine ⟨h.1, ?_⟩
  rcases h.2 with h | ⟨g, cap, cur, h1, h2, h3, h4⟩
  · exact .inl h
  · refine .inr ⟨g, cap, cur, h1, h2, ?_, h4⟩
    rw [k.block g (Array.getElem?_eq_some_iff.1 h3).1 (hd g (by rw [h1]; simp [ob, Value.ownBlock]))]
    exact h3

theorem row_shape {w : World} {base : Nat} {e : TypeId} {size n : Nat} {v : Value} {xs : List Value} (h : w.ownsRow base e size v n xs) : ∃ p c, v = .slice p n c := by
  rcases h.2 with ⟨rfl, h0⟩ | ⟨g, cap, cur, rfl, _⟩
  · exact ⟨none, 0, by rw [h0]⟩
  · exact ⟨_, _, rfl⟩

theorem row_lt {w : World} {base : Nat} {e : TypeId} {size n : Nat} {v : Value} {xs : List Value} (h : w.ownsRow base e size v n xs) : ∀ k, k ∈ ob v → base ≤ k ∧ k < w.heap.size :=
  fun k hk => World.ownsRow.lt h k (by simpa [ob] using hk)

/-- rows of two types lie in two blocks -/
theorem row_ne {w : World} {base base' : Nat} {e e' : TypeId} {size size' n n' : Nat} {v v' : Value} {xs xs' : List Value} (h : w.ownsRow base e size v n xs) (h' : w.ownsRow base' e' size' v' n' xs') (he : e ≠ e') : ∀ i, i ∈ ob v → i ∉ ob v' := by
  intro i hi hi'
  rcases h.2 with ⟨rfl, _⟩ | ⟨g, cap, cur, rfl, _, h3, _⟩
  · simp [ob, Value.ownBlock] at hi
  · rcases h'.2 with ⟨rfl, _⟩ | ⟨g', cap', cur', rfl, _, h3', _⟩
    · simp [ob, Value.ownBlock] at hi'
    · simp [ob, Value.ownBlock] at hi hi'
      subst hi; subst hi'
      rw [h3] at h3'
      simp at h3'
      exact he h3'.2

theorem OwnB.cap {w : World} {base : Nat} {e : TypeId} {p : Option Addr} {n c : Nat} {l : List UInt8} (h : OwnB w base e (.slice p n c) l) : n = l.length ∧ n ≤ c ∧ n ≤ maxLen := by
  obtain ⟨_, _, h1, h2, h3⟩ := h.shape
  simp only [Value.slice.injEq] at h1
  obtain ⟨rfl, rfl, rfl⟩ := h1
  exact ⟨rfl, h3, h2⟩

theorem OwnB.obp_le {w : World} {base : Nat} {e : TypeId} {p : Option Addr} {n c : Nat} {l : List UInt8} (h : OwnB w base e (.slice p n c) l) : ∀ i, i ∈ obp p → base ≤ i :=
  fun i hi => (h.lt i (by rw [ob_slice]; exact hi)).1

theorem OwnB.take {w : World} {base : Nat} {e : TypeId} {p : Option Addr} {n c : Nat} {l : List UInt8} (h : OwnB w base e (.slice p n c) l) {k : Nat} (hk : k ≤ n) : OwnB w base e (.slice p k c) (l.take k) := by
  have hn := h.cap.1
  have e1 : (l.take k).length = k := by simp; omega
  unfold OwnB
  rw [e1]
  refine ⟨by simp; omega, ?_⟩
  rcases h.2 with ⟨h1, h0⟩ | ⟨g, cap, cur, h1, h2, h3, h4, h5, h6, h7⟩ <;> simp only [Value.slice.injEq] at h1
  · obtain ⟨rfl, rfl, rfl⟩ := h1
    obtain rfl : k = 0 := by omega
    exact .inl ⟨rfl, rfl⟩
  · obtain ⟨rfl, hnl, rfl⟩ := h1
    refine .inr ⟨g, c, cur, rfl, h2, h3, by omega, h5, h6, ?_⟩
    rw [Nat.mul_one] at h7 ⊢
    rw [List.map_take, ← h7, List.take_take]
    congr 1
    omega

theorem OwnB.ptr {w : World} {base : Nat} {e : TypeId} {p : Option Addr} {n c : Nat} {l : List UInt8} (h : OwnB w base e (.slice p n c) l) (hn : 0 < n) : ∃ g, p = some ⟨g, 0, none⟩ ∧ base ≤ g := by
  rcases h.2 with ⟨h1, h0⟩ | ⟨g, cap, cur, h1, h2, _⟩ <;> simp only [Value.slice.injEq] at h1
  · omega
  · exact ⟨g, h1.1, h2⟩

theorem OwnB.cellAt {w : World} {base g : Nat} {e : TypeId} {n c : Nat} {l : List UInt8} (h : OwnB w base e (.slice (some ⟨g, 0, none⟩) n c) l) {k : Nat} (hk : k < n) : w.cell? ⟨g, k, none⟩ = some (bv (l.getD k 0)) := by
  have := World.ownsRow.cells (g := g) h rfl k _ (getElem_of_bv (by have := h.cap.1; omega))
  rwa [add_lit, Nat.zero_add] at this

theorem OwnB.frozenAt {w : World} {base g : Nat} {e : TypeId} {n c : Nat} {l : List UInt8} (h : OwnB w base e (.slice (some ⟨g, 0, none⟩) n c) l) (k : Nat) : w.frozen? ⟨g, k, none⟩ = false := by
  rcases h.2 with ⟨h1, h0⟩ | ⟨g', cap, cur, h1, h2, h3, _⟩ <;> simp only [Value.slice.injEq] at h1
  · cases h1.1
  · obtain ⟨h1, _, _⟩ := h1
    simp only [Option.some.injEq, Addr.mk.injEq] at h1
    obtain ⟨rfl, _⟩ := h1
    simp [World.frozen?, h3]

theorem OwnB.set {w : World} {base g : Nat} {e : TypeId} {n c : Nat} {l : List UInt8} (h : OwnB w base e (.slice (some ⟨g, 0, none⟩) n c) l) (k : Nat) (x : UInt8) : OwnB (w.setCell ⟨g, k, none⟩ (bv x)) base e (.slice (some ⟨g, 0, none⟩) n c) (l.set k x) := by
  have hn := h.cap.1
  unfold OwnB
  rw [List.length_set]
  refine ⟨by simp, ?_⟩
  rcases h.2 with ⟨h1, h0⟩ | ⟨g', cap, cur, h1, h2, h3, h4, h5, h6, h7⟩ <;> simp only [Value.slice.injEq] at h1
  · cases h1.1
  · obtain ⟨h1, hnl, rfl⟩ := h1
    simp only [Option.some.injEq, Addr.mk.injEq] at h1
    obtain ⟨rfl, _⟩ := h1
    refine .inr ⟨g, c, cur.setIfInBounds k (bv x), by rw [hnl], h2, ?_, h4, h5, by simpa using h6, ?_⟩
    · simp [World.setCell, Array.getElem?_modify, h3]
    · rw [Array.toList_setIfInBounds, List.take_set, h7, ← List.map_set]

theorem own_alloc {w : World} {base : Nat} {e : TypeId} {v : Value} {l : List UInt8} (h : OwnB w base e v l) (o : Obj) : OwnB (w.alloc o) base e v l := World.ownsRow.alloc h o

theorem Byt.kp {w w' : World} {v : Value} {l : List UInt8} {L : List Nat} (h : Byt w v l) (k : Kp L w w') (hd : ∀ i, i ∈ ob v → i ∉ L) : Byt w' v l := by
  rcases h with h | ⟨b, o, cap, h1, h2, h3, h4⟩
  · exact .inl h
  · exact .inr ⟨b, o, cap, h1, h2, h3, fun i hi => k.cell (h4 i hi) (hd b (by rw [h1]; simp [ob, Value.ownBlock]))⟩

/-- a block of one byte, or none, that a composite literal has just made -/
theorem byt_new (w : World) (l : List UInt8) (t : TypeId) (h : l.length ≤ maxLen) : Byt (w.alloc (.cells (l.map bv).toArray t)) (.slice (some ⟨w.heap.size, 0, none⟩) l.length l.length) l :=
  .inr ⟨_, 0, _, rfl, Nat.le_refl _, h, fun i hi => by rw [Nat.zero_add]; exact (Blk.new w _ _).cell (getElem_of_bv hi)⟩
theorem own_new (w : World) (t : TypeId) (base : Nat) (hb : base ≤ w.heap.size) : OwnB (w.alloc (.cells #[] t)) base t (.slice (some ⟨w.heap.size, 0, none⟩) 0 0) [] :=
  World.ownsRow_made w #[] 0 hb (by unfold maxLen; omega) rfl

end Go.Proofs.YticednpolhnneaaGreat

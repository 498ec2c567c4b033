/-
  ring.Pieces: Put, Held, First.
-/
import Derived.Test.YtodedpmedkgkmaaPiecesPlain
set_option linter.unusedVariables false
set_option linter.unusedSimpArgs false
namespace Go.Proofs.Ytodedpmedkgkmaa
open Go.RowKit

/-- pieces in memory: the field 'off' of block b; the runs' row; the bytes' blocks -/
structure PcMem (w : World) (b off : Nat) (T : TypeId) (cur : List Value) (p : Option Addr) (rs : List Rn) : Prop where
  blk : Blk w b cur T
  at_ : ∃ c, rs.length ≤ c ∧ cur[off]? = some (.slice p rs.length c)
  row : rs = [] ∨ ∃ g pre post, p = some ⟨g, pre.length, none⟩ ∧ Blk w g (pre ++ cellsOf rs ++ post) 70 ∧ g ≠ b
  ok : ∀ r ∈ rs, RnOk w r
  nd : (obs rs).Nodup
  nb : b ∉ obs rs

structure PcAt (w : World) (b off : Nat) (T : TypeId) (cur : List Value) (p : Option Addr) (rs : List Rn) : Prop extends PcMem w b off T cur p rs where
  runs : RunsOk (rs.map Rn.bn)

theorem rises_length {l : List Bn} (h : Rises l) {n : Nat} (ht : ∀ r ∈ l, r.1 + r.2.length ≤ n) : ∀ m, (∀ r ∈ l, m ≤ r.1) → m ≤ n → m + l.length ≤ n := by
  induction l with
  | nil => intro m _ hm; simpa using hm
  | cons r l ih =>
    intro m hm hmn
    have hp := h.pos r (by simp)
    have h1 := hm r (by simp)
    have h2 := ht r (by simp)
    have hl := (List.pairwise_cons.1 h.up).1
    have := ih (rises_right (a := [r]) h) (fun x hx => ht x (by simp [hx])) (m + 1) (fun x hx => by have := hl x hx; omega) (by omega)
    simp; omega

theorem PcAt.length {w : World} {b off : Nat} {T : TypeId} {cur : List Value} {p : Option Addr} {rs : List Rn} (h : PcAt w b off T cur p rs) : rs.length ≤ 1048560 := by
  have := rises_length h.runs.toRises h.runs.top 0 (by simp) (by omega)
  simpa using this

theorem cellsOf_length (rs : List Rn) : (cellsOf rs).length = rs.length * 2 := by
  induction rs with
  | nil => rfl
  | cons r rs ih => simp [cellsOf, Rn.cells] at ih ⊢; omega

theorem cellsOf_get {rs : List Rn} {k : Nat} {y : Rn} (h : rs[k]? = some y) : (cellsOf rs)[k * 2]? = some (.int .i64 y.a) ∧ (cellsOf rs)[k * 2 + 1]? = some y.v := by
  induction rs generalizing k with
  | nil => simp at h
  | cons r rs ih =>
    cases k with
    | zero => simp at h; subst h; simp [cellsOf, Rn.cells]
    | succ k =>
      have := ih (k := k) (by simpa using h)
      simpa [cellsOf, Rn.cells, Nat.add_mul, Nat.add_right_comm] using this

theorem cellsOf_set {rs : List Rn} {k : Nat} {y : Rn} (h : rs[k]? = some y) (a : Nat) : (cellsOf rs).set (k * 2) (.int .i64 a) = cellsOf (rs.set k ⟨a, y.v, y.l⟩) := by
  induction rs generalizing k with
  | nil => simp at h
  | cons r rs ih =>
    cases k with
    | zero => simp at h; subst h; simp [cellsOf, Rn.cells]
    | succ k =>
      have := ih (k := k) (by simpa using h)
      simpa [cellsOf, Rn.cells, Nat.add_mul] using this

/-- a run's cells in the row -/
theorem row_cells {w : World} {g : Nat} {pre post : List Value} {T : TypeId} {rs : List Rn} (h : Blk w g (pre ++ cellsOf rs ++ post) T) {k : Nat} {y : Rn} (hy : rs[k]? = some y) :
    w.cell? ⟨g, pre.length + k * 2, none⟩ = some (.int .i64 y.a) ∧ w.cell? ⟨g, pre.length + k * 2 + 1, none⟩ = some y.v := by
  obtain ⟨h1, h2⟩ := cellsOf_get hy
  have hk : k < rs.length := (List.getElem?_eq_some_iff.1 hy).1
  have hl := cellsOf_length rs
  constructor
  · refine h.cell ?_
    rw [List.getElem?_append_left (by simp; omega), List.getElem?_append_right (by omega), Nat.add_sub_cancel_left]
    exact h1
  · refine h.cell ?_
    rw [List.getElem?_append_left (by simp; omega), List.getElem?_append_right (by omega), Nat.add_assoc, Nat.add_sub_cancel_left]
    exact h2

theorem row_set {w : World} {g : Nat} {pre post : List Value} {T : TypeId} {rs : List Rn} (h : Blk w g (pre ++ cellsOf rs ++ post) T) {k : Nat} {y : Rn} (hy : rs[k]? = some y) (a : Nat) :
    Blk (w.setCell ⟨g, pre.length + k * 2, none⟩ (.int .i64 a)) g (pre ++ cellsOf (rs.set k ⟨a, y.v, y.l⟩) ++ post) T := by
  have hk : k < rs.length := (List.getElem?_eq_some_iff.1 hy).1
  have hl := cellsOf_length rs
  have := h.set (pre.length + k * 2) (.int .i64 a)
  rw [List.set_append_left _ _ (by simp; omega), List.set_append_right _ _ (by omega), Nat.add_sub_cancel_left, cellsOf_set hy] at this
  exact this

/-- a row's block -/
theorem row_blk {w : World} {base n : Nat} {v : Value} {xs : List Value} {e : TypeId} {size : Nat} (h : w.ownsRow base e size v n xs) (hn : 0 < n) : ∃ g c post, v = .slice (some ⟨g, 0, none⟩) n c ∧ base ≤ g ∧ n ≤ c ∧ Blk w g (xs ++ post) e := by
  rcases h.2 with ⟨_, rfl⟩ | ⟨g, cap, cur, rfl, hb, hg, hc, hm, hs, ht⟩
  · omega
  · refine ⟨g, cap, cur.toList.drop (n * size), rfl, hb, hc, ?_⟩
    unfold Blk
    rw [hg, ← ht, List.take_append_drop]

/-- where lay has laid, pieces are again -/
theorem PcMem.of_laid {w w' : World} {b off : Nat} {T : TypeId} {cur : List Value} {p : Option Addr} {rs : List Rn} (h : PcMem w b off T cur p rs) {F : List Nat} {l : List Bn} (hl : Laid w b off F l w') (hoff : off < cur.length) (hT : T ≠ 5) :
    ∃ sv p' rs', PcMem w' b off T (cur.set off sv) p' rs' ∧ rs'.map Rn.bn = l ∧ Kp [b] w w' ∧ (∀ i, i ∈ obp p' → w.heap.size ≤ i ∧ i < w'.heap.size) ∧ ∀ i, i ∈ obs rs' → i ∈ F ∨ w.heap.size ≤ i := by
  obtain ⟨w1, sv, rs', hk, rfl, hrow, hm, hok, hnd, hfr⟩ := hl
  obtain ⟨p', c', rfl⟩ := row_shape hrow
  have B1 := hk.blk h.blk (by simp)
  have hlt := row_lt hrow
  have hcap : rs'.length ≤ c' := by
    rcases hrow.2 with ⟨h1, h2⟩ | ⟨g, cap, cu, h1, _, _, h2, _⟩
    · omega
    · simp at h1; omega
  have hbd : ∀ r ∈ rs', b ∉ ob r.v := fun r hr hb => blk_ne (hok r hr).own B1 (by exact fun e => hT e.symm) hb
  have k2 : Kp [b] w1 (w1.setCell ⟨b, off, none⟩ (.slice p' rs'.length c')) := (Kp.refl _ _).setCell (.inl (by simp)) _
  refine ⟨_, p', rs', ⟨B1.set off _, ⟨c', hcap, by simp [hoff]⟩, ?_, fun r hr => (hok r hr).kp k2 (fun i hi hb => by simp at hb; subst hb; exact hbd r hr hi), hnd, ?_⟩, hm, (hk.mono (by simp)).trans k2, fun i hi => by have := hlt i (by rw [ob_slice]; exact hi); simpa [World.setCell] using this, hfr⟩
  · by_cases hn : rs'.length = 0
    · exact .inl (List.eq_nil_of_length_eq_zero hn)
    · obtain ⟨g, c, post, he, hg, _, hB⟩ := row_blk hrow (by omega)
      simp only [Value.slice.injEq] at he
      obtain ⟨rfl, _, rfl⟩ := he
      have hgb : g ≠ b := by have := h.blk.lt; omega
      exact .inr ⟨g, [], post, rfl, by simpa using k2.blk hB (by simpa using hgb), hgb⟩
  · intro hb
    obtain ⟨r, hr, hi⟩ := mem_obs.1 hb
    exact hbd r hr hi

theorem PcMem.kp {w w' : World} {b off : Nat} {T : TypeId} {cur : List Value} {p : Option Addr} {rs : List Rn} {L : List Nat} (h : PcMem w b off T cur p rs) (k : Kp L w w') (h1 : b ∉ L) (h2 : ∀ i, i ∈ obp p → i ∉ L) (h3 : ∀ i, i ∈ obs rs → i ∉ L) : PcMem w' b off T cur p rs := by
  refine ⟨k.blk h.blk h1, h.at_, ?_, fun r hr => (h.ok r hr).kp k (fun i hi => h3 i (mem_obs.2 ⟨r, hr, hi⟩)), h.nd, h.nb⟩
  rcases h.row with h0 | ⟨g, pre, post, rfl, hB, hg⟩
  · exact .inl h0
  · exact .inr ⟨g, pre, post, rfl, k.blk hB (h2 g (by simp [obp])), hg⟩

theorem PcMem.runsAt {w : World} {b off : Nat} {T : TypeId} {cur : List Value} {p : Option Addr} {rs : List Rn} (h : PcMem w b off T cur p rs) : RunsAt w p rs := by
  rcases h.row with h0 | ⟨g, pre, post, rfl, hB, hg⟩
  · exact .inl h0
  · exact .inr ⟨g, pre.length, rfl, fun i r hr => row_cells hB hr⟩

/-- what Put leaves -/
def PutDone (w : World) (b off : Nat) (T : TypeId) (cur : List Value) (p : Option Addr) (rs : List Rn) (o : List UInt8 × List Bn) (e : Ending) (w' : World) : Prop :=
  ∃ v sv p' rs', e = .returned v ∧ PcMem w' b off T (cur.set off sv) p' rs' ∧ OwnB w' 0 5 v o.1 ∧ rs'.map Rn.bn = o.2 ∧ Kp (b :: obp p) w w' ∧ (∀ i, i ∈ ob v → i ∉ obs rs') ∧ (∀ i, i ∈ ob v ∨ i ∈ obs rs' → i ∈ obs rs ∨ w.heap.size ≤ i) ∧ (∀ i, i ∈ obp p' → i ∈ obp p ∨ (w.heap.size ≤ i ∧ i < w'.heap.size)) ∧ b ∉ ob v

/-- pieces, once the new bytes are laid -/
structure PutMid (w : World) (b off : Nat) (T : TypeId) (cur : List Value) (p : Option Addr) (rs : List Rn) (wI : World) (curI : List Value) (pI : Option Addr) (rsI : List Rn) : Prop where
  mem : PcMem wI b off T curI pI rsI
  kp : Kp [b] w wI
  cur_eq : ∀ sv, curI.set off sv = cur.set off sv
  fp : ∀ i, i ∈ obp pI → i ∈ obp p ∨ (w.heap.size ≤ i ∧ i < wI.heap.size)
  fo : ∀ i, i ∈ obs rsI → i ∈ obs rs ∨ w.heap.size ≤ i
  ris : Rises (rsI.map Rn.bn)

theorem clone_any' (b o c : Nat) (l : List UInt8) (n : Nat) (w : World) (hn : l.length = n) (hb : Byt w (.slice (some ⟨b, o, none⟩) n c) l) (hl : n ≤ 1073741824) :
    Calls Try.prog 34 #[.slice (some ⟨b, o, none⟩) n c] w (Cloned w l) := by
  subst hn
  exact clone_any b o c l w hb hl

theorem lay_any' {w : World} {b off : Nat} {T : TypeId} {cur : List Value} {p : Option Addr} {rs : List Rn} (h : PcAt w b off T cur p rs) (hT : T ≠ 5) {w1 : World} (k : Kp [] w w1) (xa : Nat) (xv : Value) (xl : List UInt8) (hx : RnOk w1 ⟨xa, xv, xl⟩) (hf : ∀ i, i ∈ ob xv → w.heap.size ≤ i) :
    Calls Try.prog 33 #[.pointer (some ⟨b, off, none⟩), .agg #[.int .i64 xa, xv]] w1 fun e w' => e = .returned (.tuple #[]) ∧
      ∃ curI pI rsI, PutMid w b off T cur p rs w' curI pI rsI ∧ rsI.map Rn.bn = layTo (rs.map Rn.bn) (xa, xl) := by
  have h1 : PcMem w1 b off T cur p rs := h.toPcMem.kp k (by simp) (by simp) (by simp)
  obtain ⟨c, hc, hcell⟩ := h1.at_
  have hoff := (List.getElem?_eq_some_iff.1 hcell).1
  have hnd : (obs (⟨xa, xv, xl⟩ :: rs)).Nodup := by
    rw [obs_cons, List.nodup_append]
    refine ⟨ob_nodup _, h.nd, ?_⟩
    rintro i hi j hj rfl
    obtain ⟨r, hr, hi2⟩ := mem_obs.1 hj
    have := ((h.ok r hr).own.lt i hi2).2
    have := hf i hi
    omega
  refine (lay_any b off c p rs ⟨xa, xv, xl⟩ w1 (h1.blk.cell hcell) h1.runsAt h1.ok hx h.length (h1.blk.frozen off) hnd).mono ?_
  rintro e w' ⟨rfl, hl⟩
  obtain ⟨sv, p', rs', hm, hbn, hk, hp, ho⟩ := h1.of_laid hl hoff hT
  refine ⟨rfl, _, p', rs', ⟨hm, (k.mono (by simp)).trans hk, fun sv2 => by simp, fun i hi => .inr (by have := hp i hi; have := k.size; omega), ?_, ?_⟩, hbn⟩
  · intro i hi
    rcases ho i hi with h2 | h2
    · rw [obs_cons] at h2
      rcases List.mem_append.1 h2 with h2 | h2
      · exact .inr (hf i h2)
      · exact .inl h2
    · have := k.size
      exact .inr (by omega)
  · rw [hbn]
    exact (layTo_ok h.runs.toRises hx.pos).1

theorem PutMid.none' {w : World} {b off : Nat} {T : TypeId} {cur : List Value} {p : Option Addr} {rs : List Rn} {wI w' : World} {curI : List Value} {pI : Option Addr} {rsI : List Rn} (h : PutMid w b off T cur p rs wI curI pI rsI) (k : Kp [] wI w') :
    PutDone w b off T cur p rs ([], rsI.map Rn.bn) (.returned (.slice none 0 0)) w' := by
  obtain ⟨c, hc, hcell⟩ := h.mem.at_
  obtain ⟨hlt, hget⟩ := List.getElem?_eq_some_iff.1 hcell
  have e : curI = cur.set off (.slice pI rsI.length c) := by rw [← h.cur_eq, ← hget, List.set_getElem_self]
  refine ⟨_, _, pI, rsI, rfl, by rw [← e]; exact h.mem.kp k (by simp) (by simp) (by simp), World.ownsRow_nil _ _ _ _, rfl, (h.kp.mono (by simp)).trans (k.mono (by simp)), by simp [ob, Value.ownBlock], ?_, fun i hi => (h.fp i hi).imp id fun h' => ⟨h'.1, Nat.lt_of_lt_of_le h'.2 k.size⟩, by simp [ob, Value.ownBlock]⟩
  rintro i (hi | hi)
  · simp [ob, Value.ownBlock] at hi
  · exact h.fo i hi

theorem PutMid.none {w : World} {b off : Nat} {T : TypeId} {cur : List Value} {p : Option Addr} {rs : List Rn} {wI w' : World} {curI : List Value} {pI : Option Addr} {rsI : List Rn} (h : PutMid w b off T cur p rs wI curI pI rsI) (k : Kp [] wI w') (h0 : putOut (rsI.map Rn.bn) = ([], rsI.map Rn.bn)) :
    PutDone w b off T cur p rs (putOut (rsI.map Rn.bn)) (.returned (.slice none 0 0)) w' := by
  rw [h0]
  exact h.none' k

theorem PutMid.length {w : World} {b off : Nat} {T : TypeId} {cur : List Value} {p : Option Addr} {rs : List Rn} {wI : World} {curI : List Value} {pI : Option Addr} {rsI : List Rn} (h : PutMid w b off T cur p rs wI curI pI rsI) : rsI.length ≤ 1048560 := by
  have := rises_length h.ris (n := 1048560) (fun r hr => by obtain ⟨y, hy, rfl⟩ := List.mem_map.1 hr; exact (h.mem.ok y hy).top) 0 (by simp) (by omega)
  simpa using this

/-- where the shifting loop stands -/
structure PutLoop (wI wr : World) (b off : Nat) (T : TypeId) (curI : List Value) (sv : Value) (g : Nat) (pre post : List Value) (l : List Rn) (n k : Nat) (l' : List Rn) : Prop where
  box : Blk wr b (curI.set off sv) T
  row : Blk wr g (pre ++ cellsOf l' ++ post) 70
  len : l'.length = l.length
  at_ : ∀ i y, l[i]? = some y → l'[i]? = some (if i < k then ⟨y.a - n, y.v, y.l⟩ else y)
  kp : Kp [b, g] wI wr

theorem PutLoop.end {wI wr : World} {b off : Nat} {T : TypeId} {curI : List Value} {sv : Value} {g : Nat} {pre post : List Value} {l : List Rn} {n k : Nat} {l' : List Rn} (h : PutLoop wI wr b off T curI sv g pre post l n k l') (hk : l.length ≤ k) : l' = l.map fun y => ⟨y.a - n, y.v, y.l⟩ := by
  refine List.ext_getElem? fun i => ?_
  rw [List.getElem?_map]
  cases hy : l[i]? with
  | none => exact List.getElem?_eq_none (by have := List.getElem?_eq_none_iff.1 hy; have := h.len; omega)
  | some y =>
    have := (List.getElem?_eq_some_iff.1 hy).1
    rw [h.at_ i y hy, if_pos (by omega)]
    rfl

theorem PutLoop.step {wI wr : World} {b off : Nat} {T : TypeId} {curI : List Value} {sv : Value} {g : Nat} {pre post : List Value} {l : List Rn} {n k : Nat} {l' : List Rn} (h : PutLoop wI wr b off T curI sv g pre post l n k l') (hg : g ≠ b) {y : Rn} (hy : l[k]? = some y) :
    PutLoop wI (wr.setCell ⟨g, pre.length + k * 2, none⟩ (.int .i64 (y.a - n : Nat))) b off T curI sv g pre post l n (k + 1) (l'.set k ⟨y.a - n, y.v, y.l⟩) := by
  have hy' : l'[k]? = some y := by rw [h.at_ k y hy, if_neg (by omega)]
  refine ⟨h.box.other hg _, row_set h.row hy' _, by simp [h.len], fun i z hz => ?_, h.kp.setCell (.inl (by simp)) _⟩
  have hk : k < l'.length := (List.getElem?_eq_some_iff.1 hy').1
  by_cases hi : k = i
  · subst hi
    rw [hy] at hz
    simp only [Option.some.injEq] at hz
    subst hz
    rw [if_pos (by omega), List.getElem?_set_self hk]
  · rw [List.getElem?_set_ne hi, h.at_ i z hz]
    by_cases h2 : i < k
    · rw [if_pos h2, if_pos (by omega)]
    · rw [if_neg h2, if_neg (by omega)]

theorem obs_map (l : List Rn) (n : Nat) : obs (l.map fun y => ⟨y.a - n, y.v, y.l⟩) = obs l := by
  induction l with
  | nil => rfl
  | cons r l ih => simp only [List.map_cons, obs_cons, ih]

theorem put_end {w : World} {b off : Nat} {T : TypeId} {cur : List Value} {p : Option Addr} {rs : List Rn} {wI w' : World} {curI : List Value} {pI : Option Addr} {r : Rn} {l : List Rn} (h : PutMid w b off T cur p rs wI curI pI (r :: l)) (h0 : ¬ 0 < r.a)
    {g : Nat} {pre post : List Value} (hp : pI = some ⟨g, pre.length, none⟩) (hB : Blk wI g (pre ++ cellsOf (r :: l) ++ post) 70) (hg : g ≠ b) {p' : Option Addr} {c' : Nat} (hc' : l.length ≤ c') (hp' : (l = [] ∧ p' = pI) ∨ p' = some ⟨g, (pre ++ r.cells).length, none⟩) {k : Nat} {l' : List Rn}
    (H : PutLoop wI w' b off T curI (.slice p' l.length c') g (pre ++ r.cells) post l r.l.length k l') (hk : l.length ≤ k) :
    PutDone w b off T cur p rs (putOut ((r :: l).map Rn.bn)) (.returned r.v) w' := by
  have hl' := H.end hk
  subst hl'
  have hnd := h.mem.nd
  rw [obs_cons, List.nodup_append] at hnd
  have hoff : off < curI.length := by
    obtain ⟨c, _, hcell⟩ := h.mem.at_
    exact (List.getElem?_eq_some_iff.1 hcell).1
  have hgn : ∀ y, y ∈ r :: l → ∀ i, i ∈ ob y.v → i ∉ [b, g] := by
    intro y hy i hi hm
    simp at hm
    rcases hm with rfl | rfl
    · exact h.mem.nb (mem_obs.2 ⟨y, hy, hi⟩)
    · exact blk_ne (h.mem.ok y hy).own hB (by decide) hi
  have hris := (List.pairwise_cons.1 h.ris.up).1
  have eo : putOut ((r :: l).map Rn.bn) = (r.l, (l.map fun y => (⟨y.a - r.l.length, y.v, y.l⟩ : Rn)).map Rn.bn) := by
    unfold putOut
    simp only [List.map_cons, Rn.bn, h0, if_false, List.map_map, Function.comp_def]
  have hob : ∀ i, i ∈ obp p' → i ∈ obp pI := by
    rcases hp' with ⟨_, rfl⟩ | rfl
    · simp
    · subst hp; simp [obp]
  rw [eo]
  refine ⟨r.v, .slice p' l.length c', p', _, rfl, ⟨by rw [← h.cur_eq]; exact H.box, ⟨c', by simpa using hc', by rw [← h.cur_eq]; simp [hoff]⟩, ?_, ?_, by rw [obs_map]; exact hnd.2.1, ?_⟩, ((h.mem.ok r (by simp)).kp H.kp (hgn r (by simp))).own, rfl, ?_, ?_, ?_, fun i hi => (h.fp i (hob i hi)).imp id fun h' => ⟨h'.1, Nat.lt_of_lt_of_le h'.2 H.kp.size⟩, ?_⟩
  · rcases hp' with ⟨rfl, _⟩ | rfl
    · exact .inl rfl
    · exact .inr ⟨g, _, post, rfl, H.row, hg⟩
  · intro y hy
    obtain ⟨z, hz, rfl⟩ := List.mem_map.1 hy
    have hz1 := (h.mem.ok z (by simp [hz])).kp H.kp (hgn z (by simp [hz]))
    have := hz1.top
    exact ⟨hz1.own, hz1.pos, by simp only []; omega⟩
  · rw [obs_map]
    intro hb
    exact h.mem.nb (by rw [obs_cons]; exact List.mem_append_right _ hb)
  · refine h.kp.trans' H.kp (by simp) ?_
    intro i hi
    simp at hi
    rcases hi with rfl | rfl
    · exact .inl (by simp)
    · rcases h.fp i (by subst hp; simp [obp]) with h1 | h1
      · exact .inl (by simp [h1])
      · exact .inr h1.1
  · rw [obs_map]
    intro i hi hj
    exact hnd.2.2 i hi i hj rfl
  · rw [obs_map]
    intro i hi
    refine h.fo i ?_
    rw [obs_cons]
    exact List.mem_append.2 hi
  · intro hb
    exact h.mem.nb (by rw [obs_cons]; exact List.mem_append_left _ hb)

/-- what the walk behind lay must know: no runs; the first one ahead; one run at 0, the row's last; one run at 0, more behind -/
theorem putCases {w : World} {b off : Nat} {T : TypeId} {cur : List Value} {p : Option Addr} {rs : List Rn} {wI : World} {curI : List Value} {pI : Option Addr} {rsI : List Rn} (M : PutMid w b off T cur p rs wI curI pI rsI) :
    (rsI = [] ∧ ∃ pc : Nat, wI.cell? ⟨b, off, none⟩ = some (.slice pI (0 : Nat) pc)) ∨
    (∃ (r : Rn) (l : List Rn) (g : Nat) (pre post : List Value) (pc : Nat), rsI = r :: l ∧ pI = some ⟨g, pre.length, none⟩ ∧ wI.cell? ⟨b, off, none⟩ = some (.slice (some ⟨g, pre.length, none⟩) (l.length + 1) pc) ∧ wI.cell? ⟨g, pre.length, none⟩ = some (.int .i64 r.a) ∧ 0 < r.a ∧ r.a ≤ 1048560 ∧ l.length + 1 ≤ pc ∧ l.length + 1 ≤ 1048560 ∧ Hid (Blk wI g (pre ++ cellsOf (r :: l) ++ post) 70)) ∨
    (∃ (rp : Option Addr) (rl : List UInt8) (rc g : Nat) (pre post : List Value), rsI = [⟨0, .slice rp rl.length rc, rl⟩] ∧ pI = some ⟨g, pre.length, none⟩ ∧ wI.cell? ⟨b, off, none⟩ = some (.slice (some ⟨g, pre.length, none⟩) (1 : Nat) (1 : Nat)) ∧ wI.frozen? ⟨b, off, none⟩ = false ∧ wI.cell? ⟨g, pre.length, none⟩ = some (.int .i64 (0 : Nat)) ∧ wI.cell? ⟨g, pre.length + 1, none⟩ = some (.slice rp rl.length rc) ∧ g ≠ b ∧ off < curI.length ∧
      Hid (Blk wI g (pre ++ cellsOf [⟨0, .slice rp rl.length rc, rl⟩] ++ post) 70)) ∨
    (∃ (rp : Option Addr) (rl : List UInt8) (rc : Nat) (l : List Rn) (g : Nat) (pre post : List Value) (pc : Nat), rsI = ⟨0, .slice rp rl.length rc, rl⟩ :: l ∧ pI = some ⟨g, pre.length, none⟩ ∧ wI.cell? ⟨b, off, none⟩ = some (.slice (some ⟨g, pre.length, none⟩) (l.length + 1) pc) ∧ wI.frozen? ⟨b, off, none⟩ = false ∧ wI.cell? ⟨g, pre.length, none⟩ = some (.int .i64 (0 : Nat)) ∧ wI.cell? ⟨g, pre.length + 1, none⟩ = some (.slice rp rl.length rc) ∧ g ≠ b ∧ off < curI.length ∧
      ¬ pc = 1 ∧ l.length + 1 ≤ pc ∧ l.length + 1 ≤ 1048560 ∧ Hid (Blk wI g (pre ++ cellsOf (⟨0, .slice rp rl.length rc, rl⟩ :: l) ++ post) 70)) := by
  obtain ⟨pc, hpc, hcell⟩ := M.mem.at_
  have hlen := M.length
  have x1 := M.mem.blk.cell hcell
  have x2 := M.mem.blk.frozen off
  obtain _ | ⟨r, l⟩ := rsI
  · exact .inl ⟨rfl, pc, x1⟩
  · obtain ⟨g, pre, post, rfl, hB, hg⟩ := M.mem.row.resolve_left (by simp)
    obtain ⟨y1, y2⟩ := row_cells hB (k := 0) rfl
    simp only [Nat.zero_mul, Nat.add_zero] at y1 y2
    simp only [List.length_cons] at hlen hpc x1
    have hok := M.mem.ok r (by simp)
    have hoff := (List.getElem?_eq_some_iff.1 hcell).1
    by_cases h0 : 0 < r.a
    · exact .inr (.inl ⟨r, l, g, pre, post, pc, rfl, rfl, x1, y1, h0, by have := hok.top; omega, hpc, hlen, Lib.hid hB⟩)
    · obtain ⟨ra, rv, rl⟩ := r
      obtain ⟨rp, rc, hrv, _⟩ := hok.own.shape
      simp only [] at y1 y2 h0 hrv
      subst hrv
      obtain rfl : ra = 0 := by omega
      by_cases hc1 : pc = 1
      · obtain rfl : l = [] := List.eq_nil_of_length_eq_zero (by omega)
        subst hc1
        exact .inr (.inr (.inl ⟨rp, rl, rc, g, pre, post, rfl, rfl, x1, x2, y1, y2, hg, hoff, Lib.hid hB⟩))
      · exact .inr (.inr (.inr ⟨rp, rl, rc, l, g, pre, post, pc, rfl, rfl, x1, x2, y1, y2, hg, hoff, hc1, hpc, hlen, Lib.hid hB⟩))


end Go.Proofs.Ytodedpmedkgkmaa

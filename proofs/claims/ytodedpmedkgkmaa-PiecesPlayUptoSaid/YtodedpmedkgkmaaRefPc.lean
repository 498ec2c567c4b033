/-
  wharfref13.Pieces: in memory; Put's first loop.
-/
import Derived.Test.YtodedpmedkgkmaaMerge
import Derived.Test.YtodedpmedkgkmaaHeld
set_option linter.unusedVariables false
set_option linter.unusedSimpArgs false
namespace Go.Proofs.Ytodedpmedkgkmaa
open Go.RowKit

def cellsP (L : List Bp) : List Value := L.flatMap fun p => [.int .i64 p.1, bv p.2]

theorem cellsP_append (a b : List Bp) : cellsP (a ++ b) = cellsP a ++ cellsP b := by simp [cellsP]
theorem cellsP_length (L : List Bp) : (cellsP L).length = L.length * 2 := by
  induction L with
  | nil => rfl
  | cons r L ih => simp [cellsP] at ih ⊢; omega
theorem cellsP_get {L : List Bp} {k : Nat} (h : k < L.length) : (cellsP L)[k * 2]? = some (.int .i64 (L.getD k (0, 0)).1) ∧ (cellsP L)[k * 2 + 1]? = some (bv (L.getD k (0, 0)).2) := by
  induction L generalizing k with
  | nil => simp at h
  | cons r L ih =>
    cases k with
    | zero => simp [cellsP]
    | succ k =>
      have := ih (k := k) (by simpa using h)
      simpa [cellsP, Nat.add_mul, Nat.add_right_comm] using this
theorem cellsP_drop (L : List Bp) (k : Nat) : (cellsP L).drop (k * 2) = cellsP (L.drop k) := by
  induction L generalizing k with
  | nil => simp [cellsP]
  | cons r L ih =>
    cases k with
    | zero => simp
    | succ k =>
      have := ih k
      simpa [cellsP, Nat.add_mul] using this
theorem cellsP_one (L : List Bp) : ∀ u ∈ cellsP L, u.oneCell' = true := by
  intro u hu
  obtain ⟨p, _, h⟩ := List.mem_flatMap.1 hu
  simp at h
  rcases h with rfl | rfl <;> rfl

/-- pieces as a row that is owned from base on -/
def RowP (w : World) (base : Nat) (v : Value) (L : List Bp) : Prop := w.ownsRow base 72 2 v L.length (cellsP L)

theorem RowP.shape {w : World} {base : Nat} {v : Value} {L : List Bp} (h : RowP w base v L) : ∃ p c, v = .slice p L.length c := row_shape h
theorem RowP.kp {w w' : World} {base : Nat} {v : Value} {L : List Bp} {K : List Nat} (h : RowP w base v L) (k : Kp K w w') (hd : ∀ i, i ∈ ob v → i ∉ K) : RowP w' base v L := row_kp h k hd
theorem RowP.lt {w : World} {base : Nat} {v : Value} {L : List Bp} (h : RowP w base v L) : ∀ i, i ∈ ob v → base ≤ i ∧ i < w.heap.size := row_lt h
theorem RowP.mono {w : World} {base base' : Nat} {v : Value} {L : List Bp} (h : RowP w base v L) (hb : base' ≤ base) : RowP w base' v L := by
  refine ⟨h.1, ?_⟩
  rcases h.2 with h | ⟨g, cap, cur, h1, h2, h3⟩
  · exact .inl h
  · exact .inr ⟨g, cap, cur, h1, Nat.le_trans hb h2, h3⟩
theorem RowP.nil (w : World) (base : Nat) : RowP w base (.slice none 0 0) [] := World.ownsRow_nil _ _ _ _

/-- a piece's cells -/
theorem RowP.at_ {w : World} {base n c : Nat} {p : Option Addr} {L : List Bp} (h : RowP w base (.slice p n c) L) {k : Nat} (hk : k < L.length) : ∃ g, p = some ⟨g, 0, none⟩ ∧ n = L.length ∧ n ≤ c ∧ w.cell? ⟨g, k * 2, none⟩ = some (.int .i64 (L.getD k (0, 0)).1) ∧ w.cell? ⟨g, k * 2 + 1, none⟩ = some (bv (L.getD k (0, 0)).2) := by
  have h0 := h
  rcases h.2 with ⟨h1, h2⟩ | ⟨g, cap, cur, h1, h2, h3, h4, h5, h6, h7⟩
  · omega
  · simp only [Value.slice.injEq] at h1
    obtain ⟨rfl, rfl, rfl⟩ := h1
    obtain ⟨e1, e2⟩ := cellsP_get hk
    have c1 := World.ownsRow.cells (g := g) h0 rfl _ _ e1
    have c2 := World.ownsRow.cells (g := g) h0 rfl _ _ e2
    rw [add_lit, Nat.zero_add] at c1 c2
    exact ⟨g, rfl, rfl, h4, c1, c2⟩
theorem RowP.cap {w : World} {base n c : Nat} {p : Option Addr} {L : List Bp} (h : RowP w base (.slice p n c) L) : n = L.length ∧ n ≤ c ∧ c ≤ maxLen := by
  rcases h.2 with ⟨h1, h2⟩ | ⟨g, cap, cur, h1, h2, h3, h4, h5, _⟩
  · simp only [Value.slice.injEq] at h1
    obtain ⟨_, rfl, rfl⟩ := h1
    exact ⟨h2.symm, Nat.le_refl _, Nat.zero_le _⟩
  · simp only [Value.slice.injEq] at h1
    obtain ⟨_, rfl, rfl⟩ := h1
    exact ⟨rfl, h4, h5⟩

theorem infoPiece : (Try.prog.info? 72).map (fun i => (i.zero, i.size, i.bytes)) = some (some (.agg #[.int .i64 0, .int .u8 0]), 2, 16) := by kernel_rfl

/-- append(s, x...), the source's cells given -/
theorem wpList_append_cells {P : Program} {ops : Array Oper} {rest : List Oper} {o : Oper} {a : Act} {w : World} {Q : Exit → Act → World → Prop} (hgd : o.guard = none) (s x : Operand) (t : TypeId)
    (ho : o.op = .call { callee := .builtin .append, args := #[s, x], argTypes := #[t, t] }) (e : TypeId)
    (hu : P.underlying t = some (.slice e)) {z : Value} {size bytes : Nat} (hinfo : (P.info? e).map (fun i => (i.zero, i.size, i.bytes)) = some (some z, size, bytes)) (hzs : z.cells.size = size) (hsz : 0 < size)
    (base : Nat) {p0 p1 : Option Addr} {c0 n m c1 : Nat} (xs news : List Value) (N : Nat) (hs : a.eval s = .slice p0 n c0) (hx : a.eval x = .slice p1 m c1) (hown : w.ownsRow base e size (.slice p0 n c0) n xs)
    (hsrc : (p1 = none ∧ m = 0 ∧ c1 = 0) ∨ ∃ ad, p1 = some ad ∧ ∀ j u, news[j]? = some u → w.cell? (ad.add j) = some u) (hl : news.length = m * size) (h1 : ∀ u ∈ news, u.oneCell' = true) (hN : n + m = N) (hlen : N * bytes ≤ 140737488355328) (hmx : N ≤ maxLen) (hbase : base ≤ w.heap.size)
    (h : ∀ p c w', w'.ownsRow base e size (.slice p N c) N (xs ++ news) → Kp (obp p0) w w' → (obp p = obp p0 ∨ obp p = [w.heap.size]) →
      wpList P ops Q rest (a.put o.dst (.slice p N c)) w') : wpList P ops Q (o :: rest) a w := by
  refine wpList_plain hgd fun K hK => ?_
  subst hN
  obtain ⟨i, hi, hz, hsz', hby⟩ := info_parts hinfo
  rcases hsrc with ⟨rfl, rfl, rfl⟩ | ⟨ad, rfl, hcells⟩
  · have hrun := run_append_owned_none (P := P) (w := w) base t o.type e i size hu hi (.slice p0 n c0) n xs hown
    obtain rfl : news = [] := List.eq_nil_of_length_eq_zero (by simpa using hl)
    unfold Oper.wp execOp
    simp only [ho, resolve, invoke, builtin, Sem.run_bind, Sem.run_pure, Result.andThen_ok, List.map_toArray, List.map_cons, List.map_nil, hs, hx, hrun]
    exact hK _ _ (h p0 c0 w (by simpa using hown) (Kp.refl _ _) (.inl rfl))
  · obtain ⟨v', w', hr, h2, h3, _, h5⟩ := run_append_own_at (P := P) w base t o.type e i z size bytes hu hi hz hsz' hby hzs hsz (.slice p0 n c0) n xs hown ad m c1 news hl hcells h1 hmx hlen hbase
    obtain ⟨p, c, rfl⟩ := row_shape h2
    have h5' : obp p = obp p0 ∨ obp p = [w.heap.size] := by
      rw [← ob_slice p (n + m) c, ← ob_slice p0 n c0]
      rcases h5 with h5 | h5 <;> simp [ob, h5]
    have h3' : Kp (obp p0) w w' := by rw [← ob_slice p0 n c0]; exact kp_of_grown h3
    unfold Oper.wp execOp
    simp only [ho, resolve, invoke, builtin, Sem.run_bind, Sem.run_pure, Result.andThen_ok, List.map_toArray, List.map_cons, List.map_nil, hs, hx, hr]
    exact hK _ _ (h p c w' h2 h3' h5')

/-- the document's pieces -/
structure RefPc (w : World) (b : Nat) (v : Value) (L : List Bp) : Prop where
  blk : Blk w b [v] 64
  row : RowP w 0 v L
  ne : b ∉ ob v
  up : Up L
  top : ∀ p ∈ L, p.1 < 1048560

theorem RefPc.kp {w w' : World} {b : Nat} {v : Value} {L : List Bp} {K : List Nat} (h : RefPc w b v L) (k : Kp K w w') (h1 : b ∉ K) (h2 : ∀ i, i ∈ ob v → i ∉ K) : RefPc w' b v L := ⟨k.blk h.blk h1, h.row.kp k h2, h.ne, h.up, h.top⟩
theorem RefPc.length {w : World} {b : Nat} {v : Value} {L : List Bp} (h : RefPc w b v L) : L.length ≤ 1048560 := by
  have := up_length h.up h.top 0 (by simp) (by omega)
  omega
theorem MergeOk.length {ahead : Int} {bs : List UInt8} {L : List Bp} {i k : Nat} {m : List Bp} (h : MergeOk ahead bs L i k m) (ht : ∀ p ∈ L, p.1 < 1048560) : (m ++ L.drop k).length ≤ 1048560 := by
  have := up_length h.up (n := 1048560) (fun p hp => (List.mem_append.1 hp).elim (h.top p) (fun hp => ht p (List.mem_of_mem_drop hp))) 0 (by simp) (by omega)
  omega

set_option maxRecDepth 10000 in
set_option maxHeartbeats 1600000 in
theorem refheld_any {w : World} {b : Nat} {v : Value} {L : List Bp} (h : RefPc w b v L) :
    Calls Try.prog 29 #[.pointer (some ⟨b, 0, none⟩)] w fun e w' => e = .returned (.int .i64 L.length) ∧ Kp [] w w' := by
  obtain ⟨p, c, rfl⟩ := h.row.shape
  have x1 := h.blk.cell (off := 0) rfl
  have hl := h.length
  clear h
  go_enter Try.func29, Try.ntmps29
  go_wp2
  go_ret
  exact ⟨rfl, (by repeat (first | exact Kp.refl _ _ | assumption | apply Kp.drewN | apply Kp.alloc))⟩

set_option maxRecDepth 10000 in
set_option maxHeartbeats 1600000 in
theorem reffirst_any {w : World} {b : Nat} {v : Value} {L : List Bp} (h : RefPc w b v L) :
    Calls Try.prog 31 #[.pointer (some ⟨b, 0, none⟩)] w fun e w' => (L = [] ∧ e = .returned (.tuple #[.int .i64 0, .int .i64 0]) ∨ ∃ n, rowLen L n ∧ e = .returned (.tuple #[.int .i64 (L.getD 0 (0, 0)).1, .int .i64 n])) ∧ Kp [] w w' := by
  obtain ⟨p, c, rfl⟩ := h.row.shape
  have x1 := h.blk.cell (off := 0) rfl
  have hl := h.length
  have htop : ∀ k, k < L.length → (L.getD k (0, 0)).1 < 1048560 := fun k hk => h.top _ (by simp only [List.getD_eq_getElem?_getD, List.getElem?_eq_getElem hk, Option.getD_some]; exact List.getElem_mem _)
  have HT := Lib.hid htop
  have HR := Lib.hid h.row
  clear h htop
  by_cases h0 : L.length = 0
  · have hL : L = [] := List.eq_nil_of_length_eq_zero h0
    subst hL
    go_enter Try.func31, Try.ntmps31
    go_wp2
    go_ret2
    exact ⟨.inl ⟨by first | rfl | trivial, rfl⟩, (by repeat (first | exact Kp.refl _ _ | assumption | apply Kp.drewN | apply Kp.alloc))⟩
  · have hne : ((L.length : Int) == 0) = false := by rw [beq_eq_false_iff_ne]; omega
    have h00 : 0 < L.length := by omega
    obtain ⟨g, rfl, _, hcap, d0, _⟩ := HR.out.at_ h00
    rw [Nat.zero_mul] at d0
    have ht0 := HT.out 0 h00
    clear h0
    obtain ⟨y, hy⟩ : ∃ y, (L.getD 0 (0, 0)).1 = y := ⟨_, rfl⟩
    rw [hy] at d0 ht0
    have HY := Lib.hid hy
    have HG := Lib.hid (show (L.getD 0 (0, 0)).1 = (L.getD 0 (0, 0)).1 + 0 by omega)
    rw [hy]
    clear hy
    go_enter Try.func31, Try.ntmps31
    go_wp2
    go_loopw [4] (fun nv wr => ∃ n : Nat, 0 < n ∧ n ≤ L.length ∧ nv = .int .i64 n ∧ (∀ j, j < n → (L.getD j (0, 0)).1 = y + j) ∧ ∃ d, wr = w.drewN d) (fun nv _ => L.length - (intOf nv).toNat)
    case atStart => exact ⟨1, by omega, by omega, rfl, fun j hj => by rw [show j = 0 by omega, HY.out]; rfl, 0, rfl⟩
    case round =>
      obtain ⟨n, hn0, hnl, rfl, hall, d, rfl⟩ := hrel
      have HA := Lib.hid hall
      clear hall
      by_cases hlt : n < L.length
      · obtain ⟨g', e1, _, _, d1, _⟩ := HR.out.at_ hlt
        simp only [Option.some.injEq, Addr.mk.injEq, and_true] at e1
        subst e1
        have ht1 := HT.out n hlt
        generalize hx : (L.getD n (0, 0)).1 = x at d1 ht1
        have HX := Lib.hid hx
        clear hx
        by_cases he : x = y + n
        · have hb : ((x : Int) == y + n) = true := by rw [beq_iff_eq]; omega
          have HE := Lib.hid he
          clear he
          go_wp2
          go_quiet (fail)
          go_wp2
          go_roundw
          case rel => exact ⟨n + 1, by omega, by omega, by go_num, fun j hj => (Nat.lt_or_ge j n).elim (HA.out j) (fun h => by rw [show j = n by omega, HX.out]; exact HE.out), _, rfl⟩
          case measure => simp [intOf] <;> omega
        · have hb : ((x : Int) == y + n) = false := by rw [beq_eq_false_iff_ne]; omega
          have HE := Lib.hid he
          clear he
          go_wp2
          go_quiet (fail)
          go_wp2
          go_ret2
          refine ⟨.inr ⟨n, ⟨hn0, hnl, by rw [HY.out]; exact HA.out, fun _ => by rw [HX.out, HY.out]; exact HE.out⟩, rfl⟩, (by repeat (first | exact Kp.refl _ _ | assumption | apply Kp.drewN | apply Kp.alloc))⟩
      · have hf : decide ((n : Int) < L.length) = false := by simpa using hlt
        go_wp2
        go_quiet (fail)
        go_wp2
        go_ret2
        exact ⟨.inr ⟨n, ⟨hn0, hnl, by rw [HY.out]; exact HA.out, fun h => absurd h hlt⟩, rfl⟩, (by repeat (first | exact Kp.refl _ _ | assumption | apply Kp.drewN | apply Kp.alloc))⟩

end Go.Proofs.Ytodedpmedkgkmaa

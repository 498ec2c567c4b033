/-
  ring.Pieces: Put, where bytes are laid that are cut ahead.
-/
import Derived.Test.YtodedpmedkgkmaaPut
set_option linter.unusedVariables false
set_option linter.unusedSimpArgs false
namespace Go.Proofs.Ytodedpmedkgkmaa
open Go.RowKit

theorem lay_any2 {w : World} {b off : Nat} {T : TypeId} {cur : List Value} {p : Option Addr} {rs : List Rn} (h : PcAt w b off T cur p rs) (hT : T ≠ 5) {w1 : World} (k : Kp [] w w1) (xi : Int) (xa : Nat) (hxi : xi = xa) (xv : Value) (xl : List UInt8) (hx : RnOk w1 ⟨xa, xv, xl⟩) (hf : ∀ i, i ∈ ob xv → w.heap.size ≤ i) :
    Calls Try.prog 33 #[.pointer (some ⟨b, off, none⟩), .agg #[.int .i64 xi, xv]] w1 fun e w' => e = .returned (.tuple #[]) ∧
      ∃ curI pI rsI, PutMid w b off T cur p rs w' curI pI rsI ∧ rsI.map Rn.bn = layTo (rs.map Rn.bn) (xa, xl) := by
  subst hxi
  exact lay_any' h hT k xa xv xl hx hf

theorem cutM {w : World} {p : Option Addr} {c m : Nat} {bs : List UInt8} (hm : m ≤ 1048560) (hb : Byt w (.slice p m c) bs) : Byt w (.slice p (1048560 - (1048560 - m)) c) bs := by
  rwa [show 1048560 - (1048560 - m) = m by omega]


set_option maxHeartbeats 1600000 in
theorem put_some2 {w : World} {b off : Nat} {T : TypeId} {cur : List Value} {p : Option Addr} {rs : List Rn} (h : PcAt w b off T cur p rs) (hT : T ≠ 5) (m n : Nat) (g o : Nat) (bs : List UInt8) (c : Nat) (hb : Byt w (.slice (some ⟨g, o, none⟩) m c) bs)
    (hbl : bs.length = m) (hnc : n ≤ c) (hz : 0 < m) (hm : m ≤ 1048560) (hmn : m < n) (hc9 : c ≤ 9223372036854775807) :
    Calls Try.prog 26 #[.pointer (some ⟨b, off, none⟩), .int .i64 (1048560 - (m : Int)), .slice (some ⟨g, o, none⟩) n c] w (PutDone w b off T cur p rs (putOut (layTo (rs.map Rn.bn) (1048560 - m, bs)))) := by
  have HL := Lib.hid hbl
  clear hbl
  go_enter Try.func26, Try.ntmps26
  go_wp2_with (first
    | (go_at_call 34; refine (clone_any' _ _ _ bs (1048560 - (1048560 - m)) _ (by have := HL.out; omega) (cutM hm hb) (by omega)).mono ?_; rintro e w1 ⟨v, rfl, hown, hk1⟩; obtain ⟨vp, vc, hv, _⟩ := hown.shape; rw [HL.out] at hv; subst hv)
    | (go_at_call 33; refine (lay_any2 h hT (by exact hk1) _ (1048560 - m) (by omega) _ bs (RnOk.mk (by exact hown.mono (Nat.zero_le _)) (by simp only []; have := HL.out; omega) (by simp only []; have := HL.out; omega)) (fun i hi => (hown.lt i hi).1)).mono ?_; rintro e w2 ⟨rfl, curI, pI, rsI, M, hM⟩; have HM := Lib.hid hM; clear hM; rcases putCases M with ⟨rfl, pc, x1⟩ | ⟨r, l, g, pre, post, pc, rfl, rfl, x1, y1, h0, h0b, hpc, hlen, HB⟩ | ⟨rp, rl, rc, g, pre, post, rfl, rfl, x1, x2, y1, y2, hg, hoff, HB⟩ | ⟨rp, rl, rc, l, g, pre, post, pc, rfl, rfl, x1, x2, y1, y2, hg, hoff, hc1, hpc, hlen, HB⟩))
  · go_ret
    rw [← HM.out]; exact M.none (by repeat (first | exact Kp.refl _ _ | assumption | apply Kp.drewN | apply Kp.alloc)) rfl
  · go_ret
    rw [← HM.out]; exact M.none (by repeat (first | exact Kp.refl _ _ | assumption | apply Kp.drewN | apply Kp.alloc)) (by unfold putOut; simp [Rn.bn, h0])
  · go_loopw [8, 81] (fun iv kv wr => kv = .int .i64 (0 : Nat) ∧ PutLoop w2 wr b off T curI (.slice (some ⟨g, pre.length, none⟩) (0 : Nat) (0 : Nat)) g (pre ++ Rn.cells ⟨0, .slice rp rl.length rc, rl⟩) post [] rl.length 0 []) (fun _ kv _ => 0)
    case atStart =>
      have hB2 : Blk w2 g ((pre ++ Rn.cells ⟨0, .slice rp rl.length rc, rl⟩) ++ cellsOf [] ++ post) 70 := by have := HB.out; simpa [cellsOf] using this
      exact ⟨rfl, ⟨M.mem.blk.set off _, hB2.other (a := ⟨b, off, none⟩) (fun e => hg e.symm) _, rfl, by simp, (Kp.refl _ _).setCell (.inl (by simp)) _⟩⟩
    case round =>
      obtain ⟨rfl, H⟩ := hrel
      go_wp2
      go_ret
      rw [← HM.out]; exact put_end M (by simp) rfl HB.out hg (by simp) (.inl ⟨rfl, rfl⟩) H (by simp)
  · go_loopw [8, 81] (fun iv kv wr => ∃ (k : Nat) (l' : List Rn), k ≤ l.length ∧ kv = .int .i64 k ∧ PutLoop w2 wr b off T curI (.slice (some ⟨g, pre.length + 2, none⟩) l.length (pc - 1)) g (pre ++ Rn.cells ⟨0, .slice rp rl.length rc, rl⟩) post l rl.length k l') (fun _ kv _ => l.length - (intOf kv).toNat)
    case atStart =>
      have hB2 : Blk w2 g ((pre ++ Rn.cells ⟨0, .slice rp rl.length rc, rl⟩) ++ cellsOf l ++ post) 70 := by have := HB.out; simpa [cellsOf] using this
      refine ⟨0, l, Nat.zero_le _, rfl, ⟨M.mem.blk.set off _, hB2.other (a := ⟨b, off, none⟩) (fun e => hg e.symm) _, rfl, by simp, (Kp.refl _ _).setCell (.inl (by simp)) _⟩⟩
    case round =>
      obtain ⟨k, l', hk, rfl, H⟩ := hrel
      have b1 := H.box.cell (off := off) (v := .slice (some ⟨g, pre.length + 2, none⟩) l.length (pc - 1)) (by simp [hoff])
      by_cases hlt : k < l.length
      · obtain ⟨y, hy⟩ : ∃ y, l[k]? = some y := ⟨_, List.getElem?_eq_getElem hlt⟩
        have hy' : l'[k]? = some y := by rw [H.at_ k y hy, if_neg (by omega)]
        obtain ⟨z1, _⟩ := row_cells H.row hy'
        have zf := H.row.frozen (pre.length + 2 + k * 2)
        have hpl : (pre ++ Rn.cells ⟨0, .slice rp rl.length rc, rl⟩).length = pre.length + 2 := by simp [Rn.cells]
        have hya : rl.length < y.a := by
          have := (List.pairwise_cons.1 M.ris.up).1 y.bn (List.mem_map.2 ⟨y, List.mem_of_getElem? hy, rfl⟩)
          simpa [Rn.bn] using this
        have hyt := (M.mem.ok y (List.mem_cons_of_mem _ (List.mem_of_getElem? hy))).top
        have S := H.step hg hy
        rw [hpl] at z1 S
        have eN : ((y.a - rl.length : Nat) : Int) = (y.a : Int) - rl.length := by omega
        rw [eN] at S
        have HS := Lib.hid S
        have HY := Lib.hid hy
        have HY' := Lib.hid hy'
        clear S hy hy' eN hpl
        go_wp2
        go_roundw
        case rel => exact ⟨k + 1, _, by omega, by go_num, HS.out⟩
        case measure => simp [intOf]; omega
      · go_wp2
        go_ret
        rw [← HM.out]; exact put_end M (by simp) rfl HB.out hg (by omega) (.inr (by simp [Rn.cells])) H (by omega)

set_option maxHeartbeats 1600000 in
theorem put_some3 {w : World} {b off : Nat} {T : TypeId} {cur : List Value} {p : Option Addr} {rs : List Rn} (h : PcAt w b off T cur p rs) (hT : T ≠ 5) (k m : Nat) (g o : Nat) (bs : List UInt8) (c : Nat) (hb : Byt w (.slice (some ⟨g, o + k, none⟩) m (c - k)) bs)
    (hk : 0 < k) (hk2 : k ≤ 1048560) (hbl : bs.length = m) (hnc : k + m ≤ c) (hz : 0 < m) (hm : m ≤ 1048560) (hc9 : c ≤ 9223372036854775807) :
    Calls Try.prog 26 #[.pointer (some ⟨b, off, none⟩), .int .i64 (-(k : Int)), .slice (some ⟨g, o, none⟩) (k + m) c] w (PutDone w b off T cur p rs (putOut (layTo (rs.map Rn.bn) (0, bs)))) := by
  have HL := Lib.hid hbl
  have hck : ¬ c = k := by omega
  clear hbl
  go_enter Try.func26, Try.ntmps26
  go_wp2_with (first
    | (go_at_call 34; refine (clone_any' _ _ _ bs m _ (by have := HL.out; omega) hb (by omega)).mono ?_; rintro e w1 ⟨v, rfl, hown, hk1⟩; obtain ⟨vp, vc, hv, _⟩ := hown.shape; rw [HL.out] at hv; subst hv)
    | (go_at_call 33; refine (lay_any2 h hT (by exact hk1) _ 0 (by omega) _ bs (RnOk.mk (by exact hown.mono (Nat.zero_le _)) (by simp only []; have := HL.out; omega) (by simp only []; have := HL.out; omega)) (fun i hi => (hown.lt i hi).1)).mono ?_; rintro e w2 ⟨rfl, curI, pI, rsI, M, hM⟩; have HM := Lib.hid hM; clear hM; rcases putCases M with ⟨rfl, pc, x1⟩ | ⟨r, l, g, pre, post, pc, rfl, rfl, x1, y1, h0, h0b, hpc, hlen, HB⟩ | ⟨rp, rl, rc, g, pre, post, rfl, rfl, x1, x2, y1, y2, hg, hoff, HB⟩ | ⟨rp, rl, rc, l, g, pre, post, pc, rfl, rfl, x1, x2, y1, y2, hg, hoff, hc1, hpc, hlen, HB⟩))
  · go_ret
    rw [← HM.out]; exact M.none (by repeat (first | exact Kp.refl _ _ | assumption | apply Kp.drewN | apply Kp.alloc)) rfl
  · go_ret
    rw [← HM.out]; exact M.none (by repeat (first | exact Kp.refl _ _ | assumption | apply Kp.drewN | apply Kp.alloc)) (by unfold putOut; simp [Rn.bn, h0])
  · go_loopw [8, 81] (fun iv kv wr => kv = .int .i64 (0 : Nat) ∧ PutLoop w2 wr b off T curI (.slice (some ⟨g, pre.length, none⟩) (0 : Nat) (0 : Nat)) g (pre ++ Rn.cells ⟨0, .slice rp rl.length rc, rl⟩) post [] rl.length 0 []) (fun _ kv _ => 0)
    case atStart =>
      have hB2 : Blk w2 g ((pre ++ Rn.cells ⟨0, .slice rp rl.length rc, rl⟩) ++ cellsOf [] ++ post) 70 := by have := HB.out; simpa [cellsOf] using this
      exact ⟨rfl, ⟨M.mem.blk.set off _, hB2.other (a := ⟨b, off, none⟩) (fun e => hg e.symm) _, rfl, by simp, (Kp.refl _ _).setCell (.inl (by simp)) _⟩⟩
    case round =>
      obtain ⟨rfl, H⟩ := hrel
      go_wp2
      go_ret
      rw [← HM.out]; exact put_end M (by simp) rfl HB.out hg (by simp) (.inl ⟨rfl, rfl⟩) H (by simp)
  · go_loopw [8, 81] (fun iv kv wr => ∃ (k : Nat) (l' : List Rn), k ≤ l.length ∧ kv = .int .i64 k ∧ PutLoop w2 wr b off T curI (.slice (some ⟨g, pre.length + 2, none⟩) l.length (pc - 1)) g (pre ++ Rn.cells ⟨0, .slice rp rl.length rc, rl⟩) post l rl.length k l') (fun _ kv _ => l.length - (intOf kv).toNat)
    case atStart =>
      have hB2 : Blk w2 g ((pre ++ Rn.cells ⟨0, .slice rp rl.length rc, rl⟩) ++ cellsOf l ++ post) 70 := by have := HB.out; simpa [cellsOf] using this
      refine ⟨0, l, Nat.zero_le _, rfl, ⟨M.mem.blk.set off _, hB2.other (a := ⟨b, off, none⟩) (fun e => hg e.symm) _, rfl, by simp, (Kp.refl _ _).setCell (.inl (by simp)) _⟩⟩
    case round =>
      obtain ⟨k, l', hk, rfl, H⟩ := hrel
      have b1 := H.box.cell (off := off) (v := .slice (some ⟨g, pre.length + 2, none⟩) l.length (pc - 1)) (by simp [hoff])
      by_cases hlt : k < l.length
      · obtain ⟨y, hy⟩ : ∃ y, l[k]? = some y := ⟨_, List.getElem?_eq_getElem hlt⟩
        have hy' : l'[k]? = some y := by rw [H.at_ k y hy, if_neg (by omega)]
        obtain ⟨z1, _⟩ := row_cells H.row hy'
        have zf := H.row.frozen (pre.length + 2 + k * 2)
        have hpl : (pre ++ Rn.cells ⟨0, .slice rp rl.length rc, rl⟩).length = pre.length + 2 := by simp [Rn.cells]
        have hya : rl.length < y.a := by
          have := (List.pairwise_cons.1 M.ris.up).1 y.bn (List.mem_map.2 ⟨y, List.mem_of_getElem? hy, rfl⟩)
          simpa [Rn.bn] using this
        have hyt := (M.mem.ok y (List.mem_cons_of_mem _ (List.mem_of_getElem? hy))).top
        have S := H.step hg hy
        rw [hpl] at z1 S
        have eN : ((y.a - rl.length : Nat) : Int) = (y.a : Int) - rl.length := by omega
        rw [eN] at S
        have HS := Lib.hid S
        have HY := Lib.hid hy
        have HY' := Lib.hid hy'
        clear S hy hy' eN hpl
        go_wp2
        go_roundw
        case rel => exact ⟨k + 1, _, by omega, by go_num, HS.out⟩
        case measure => simp [intOf]; omega
      · go_wp2
        go_ret
        rw [← HM.out]; exact put_end M (by simp) rfl HB.out hg (by omega) (.inr (by simp [Rn.cells])) H (by omega)

set_option maxHeartbeats 1600000 in
theorem put_some4 {w : World} {b off : Nat} {T : TypeId} {cur : List Value} {p : Option Addr} {rs : List Rn} (h : PcAt w b off T cur p rs) (hT : T ≠ 5) (k m : Nat) (g o : Nat) (bs : List UInt8) (c : Nat) (hb : Byt w (.slice (some ⟨g, o + k, none⟩) 1048560 (c - k)) bs)
    (hk : 0 < k) (hk2 : k ≤ 1048560) (hbl : bs.length = 1048560) (hnc : k + m ≤ c) (hm : 1048560 < m) (hc9 : c ≤ 9223372036854775807) :
    Calls Try.prog 26 #[.pointer (some ⟨b, off, none⟩), .int .i64 (-(k : Int)), .slice (some ⟨g, o, none⟩) (k + m) c] w (PutDone w b off T cur p rs (putOut (layTo (rs.map Rn.bn) (0, bs)))) := by
  have HL := Lib.hid hbl
  have hck : ¬ c = k := by omega
  clear hbl
  go_enter Try.func26, Try.ntmps26
  go_wp2_with (first
    | (go_at_call 34; refine (clone_any' _ _ _ bs 1048560 _ (by have := HL.out; omega) hb (by omega)).mono ?_; rintro e w1 ⟨v, rfl, hown, hk1⟩; obtain ⟨vp, vc, hv, _⟩ := hown.shape; rw [HL.out] at hv; subst hv)
    | (go_at_call 33; refine (lay_any2 h hT (by exact hk1) _ 0 (by omega) _ bs (RnOk.mk (by exact hown.mono (Nat.zero_le _)) (by simp only []; have := HL.out; omega) (by simp only []; have := HL.out; omega)) (fun i hi => (hown.lt i hi).1)).mono ?_; rintro e w2 ⟨rfl, curI, pI, rsI, M, hM⟩; have HM := Lib.hid hM; clear hM; rcases putCases M with ⟨rfl, pc, x1⟩ | ⟨r, l, g, pre, post, pc, rfl, rfl, x1, y1, h0, h0b, hpc, hlen, HB⟩ | ⟨rp, rl, rc, g, pre, post, rfl, rfl, x1, x2, y1, y2, hg, hoff, HB⟩ | ⟨rp, rl, rc, l, g, pre, post, pc, rfl, rfl, x1, x2, y1, y2, hg, hoff, hc1, hpc, hlen, HB⟩))
  · go_ret
    rw [← HM.out]; exact M.none (by repeat (first | exact Kp.refl _ _ | assumption | apply Kp.drewN | apply Kp.alloc)) rfl
  · go_ret
    rw [← HM.out]; exact M.none (by repeat (first | exact Kp.refl _ _ | assumption | apply Kp.drewN | apply Kp.alloc)) (by unfold putOut; simp [Rn.bn, h0])
  · go_loopw [8, 81] (fun iv kv wr => kv = .int .i64 (0 : Nat) ∧ PutLoop w2 wr b off T curI (.slice (some ⟨g, pre.length, none⟩) (0 : Nat) (0 : Nat)) g (pre ++ Rn.cells ⟨0, .slice rp rl.length rc, rl⟩) post [] rl.length 0 []) (fun _ kv _ => 0)
    case atStart =>
      have hB2 : Blk w2 g ((pre ++ Rn.cells ⟨0, .slice rp rl.length rc, rl⟩) ++ cellsOf [] ++ post) 70 := by have := HB.out; simpa [cellsOf] using this
      exact ⟨rfl, ⟨M.mem.blk.set off _, hB2.other (a := ⟨b, off, none⟩) (fun e => hg e.symm) _, rfl, by simp, (Kp.refl _ _).setCell (.inl (by simp)) _⟩⟩
    case round =>
      obtain ⟨rfl, H⟩ := hrel
      go_wp2
      go_ret
      rw [← HM.out]; exact put_end M (by simp) rfl HB.out hg (by simp) (.inl ⟨rfl, rfl⟩) H (by simp)
  · go_loopw [8, 81] (fun iv kv wr => ∃ (k : Nat) (l' : List Rn), k ≤ l.length ∧ kv = .int .i64 k ∧ PutLoop w2 wr b off T curI (.slice (some ⟨g, pre.length + 2, none⟩) l.length (pc - 1)) g (pre ++ Rn.cells ⟨0, .slice rp rl.length rc, rl⟩) post l rl.length k l') (fun _ kv _ => l.length - (intOf kv).toNat)
    case atStart =>
      have hB2 : Blk w2 g ((pre ++ Rn.cells ⟨0, .slice rp rl.length rc, rl⟩) ++ cellsOf l ++ post) 70 := by have := HB.out; simpa [cellsOf] using this
      refine ⟨0, l, Nat.zero_le _, rfl, ⟨M.mem.blk.set off _, hB2.other (a := ⟨b, off, none⟩) (fun e => hg e.symm) _, rfl, by simp, (Kp.refl _ _).setCell (.inl (by simp)) _⟩⟩
    case round =>
      obtain ⟨k, l', hk, rfl, H⟩ := hrel
      have b1 := H.box.cell (off := off) (v := .slice (some ⟨g, pre.length + 2, none⟩) l.length (pc - 1)) (by simp [hoff])
      by_cases hlt : k < l.length
      · obtain ⟨y, hy⟩ : ∃ y, l[k]? = some y := ⟨_, List.getElem?_eq_getElem hlt⟩
        have hy' : l'[k]? = some y := by rw [H.at_ k y hy, if_neg (by omega)]
        obtain ⟨z1, _⟩ := row_cells H.row hy'
        have zf := H.row.frozen (pre.length + 2 + k * 2)
        have hpl : (pre ++ Rn.cells ⟨0, .slice rp rl.length rc, rl⟩).length = pre.length + 2 := by simp [Rn.cells]
        have hya : rl.length < y.a := by
          have := (List.pairwise_cons.1 M.ris.up).1 y.bn (List.mem_map.2 ⟨y, List.mem_of_getElem? hy, rfl⟩)
          simpa [Rn.bn] using this
        have hyt := (M.mem.ok y (List.mem_cons_of_mem _ (List.mem_of_getElem? hy))).top
        have S := H.step hg hy
        rw [hpl] at z1 S
        have eN : ((y.a - rl.length : Nat) : Int) = (y.a : Int) - rl.length := by omega
        rw [eN] at S
        have HS := Lib.hid S
        have HY := Lib.hid hy
        have HY' := Lib.hid hy'
        clear S hy hy' eN hpl
        go_wp2
        go_roundw
        case rel => exact ⟨k + 1, _, by omega, by go_num, HS.out⟩
        case measure => simp [intOf]; omega
      · go_wp2
        go_ret
        rw [← HM.out]; exact put_end M (by simp) rfl HB.out hg (by omega) (.inr (by simp [Rn.cells])) H (by omega)

end Go.Proofs.Ytodedpmedkgkmaa

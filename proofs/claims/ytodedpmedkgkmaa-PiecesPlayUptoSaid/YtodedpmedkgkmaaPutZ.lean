/-
  ring.Pieces: Put, its cases.
-/
import Derived.Test.YtodedpmedkgkmaaPut
set_option linter.unusedVariables false
set_option linter.unusedSimpArgs false
namespace Go.Proofs.Ytodedpmedkgkmaa
open Go.RowKit

set_option maxHeartbeats 1600000 in
theorem put_z1 {w : World} {b off : Nat} {T : TypeId} {cur : List Value} {p : Option Addr} {rs : List Rn} (h : PcAt w b off T cur p rs) (X : List Bn) (hX : rs.map Rn.bn = X) (ahead : Nat) (q : Option Addr) (n c : Nat) (ha : ahead < 1048560) (hnc : n ≤ c) (hz : n ≤ 0) (hc9 : c ≤ 9223372036854775807) :
    Calls Try.prog 26 #[.pointer (some ⟨b, off, none⟩), .int .i64 ahead, .slice q n c] w (PutDone w b off T cur p rs (putOut X)) := by
  have M : PutMid w b off T cur p rs w cur p rs := ⟨h.toPcMem, Kp.refl _ _, fun _ => rfl, fun i hi => .inl hi, fun i hi => .inl hi, h.runs.toRises⟩
  generalize hrs : rs = rsI at M hX
  generalize hp : p = pI at M
  generalize hcu : cur = curI at M
  have HE := Lib.hid (And.intro hrs (And.intro hp hcu))
  have HM := Lib.hid hX
  clear hrs hp hcu hX
  go_enter Try.func26, Try.ntmps26
  rcases putCases M with ⟨rfl, pc, x1⟩ | ⟨r, l, g, pre, post, pc, rfl, rfl, x1, y1, h0, h0b, hpc, hlen, HB⟩ | ⟨rp, rl, rc, g, pre, post, rfl, rfl, x1, x2, y1, y2, hg, hoff, HB⟩ | ⟨rp, rl, rc, l, g, pre, post, pc, rfl, rfl, x1, x2, y1, y2, hg, hoff, hc1, hpc, hlen, HB⟩
  all_goals go_wp2
  · go_ret
    rw [← HM.out]; exact M.none (by repeat (first | exact Kp.refl _ _ | assumption | apply Kp.drewN | apply Kp.alloc)) rfl
  · go_ret
    rw [← HM.out]; exact M.none (by repeat (first | exact Kp.refl _ _ | assumption | apply Kp.drewN | apply Kp.alloc)) (by unfold putOut; simp [Rn.bn, h0])
  · go_loopw [8, 81] (fun iv kv wr => kv = .int .i64 (0 : Nat) ∧ PutLoop w wr b off T curI (.slice (some ⟨g, pre.length, none⟩) (0 : Nat) (0 : Nat)) g (pre ++ Rn.cells ⟨0, .slice rp rl.length rc, rl⟩) post [] rl.length 0 []) (fun _ kv _ => 0)
    case atStart =>
      have hB2 : Blk w g ((pre ++ Rn.cells ⟨0, .slice rp rl.length rc, rl⟩) ++ cellsOf [] ++ post) 70 := by have := HB.out; simpa [cellsOf] using this
      exact ⟨rfl, ⟨M.mem.blk.set off _, hB2.other (a := ⟨b, off, none⟩) (fun e => hg e.symm) _, rfl, by simp, (Kp.refl _ _).setCell (.inl (by simp)) _⟩⟩
    case round =>
      obtain ⟨rfl, H⟩ := hrel
      go_wp2
      go_ret
      rw [← HM.out]; exact put_end M (by simp) rfl HB.out hg (by simp) (.inl ⟨rfl, rfl⟩) H (by simp)
  · go_loopw [8, 81] (fun iv kv wr => ∃ (k : Nat) (l' : List Rn), k ≤ l.length ∧ kv = .int .i64 k ∧ PutLoop w wr b off T curI (.slice (some ⟨g, pre.length + 2, none⟩) l.length (pc - 1)) g (pre ++ Rn.cells ⟨0, .slice rp rl.length rc, rl⟩) post l rl.length k l') (fun _ kv _ => l.length - (intOf kv).toNat)
    case atStart =>
      have hB2 : Blk w g ((pre ++ Rn.cells ⟨0, .slice rp rl.length rc, rl⟩) ++ cellsOf l ++ post) 70 := by have := HB.out; simpa [cellsOf] using this
      refine ⟨0, l, Nat.zero_le _, rfl, ⟨M.mem.blk.set off _, hB2.other (a := ⟨b, off, none⟩) (fun e => hg e.symm) _, rfl, by simp, (Kp.refl _ _).setCell (.inl (by simp)) _⟩⟩
    case round =>
      obtain ⟨k, l', hk, rfl, H⟩ := hrel
      have b1 := H.box.cell (off := off) (v := .slice (some ⟨g, pre.length + 2, none⟩) l.length (pc - 1)) (by simp [hoff])
      by_cases hlt : k < l.length
      · obtain ⟨y, hy⟩ : ∃ y, l[k]? = some y := ⟨_, List.getElem?_eq_getElem hlt⟩
        have hy' : l'[k]? = some y := by rw [H.at_ k y hy, if_neg (by omega)]
        obtain ⟨z1, _⟩ := row_cells H.row hy'
        have zf := H.row.frozen (pre.length + 2 + k * 2)
        have hpl : (pre ++ Rn.cells ⟨0, .slice rp rl.length rc, rl⟩).length = pre.length + 2 := by simp [Rn.cells]
        have hya : rl.length < y.a := by
          have := (List.pairwise_cons.1 M.ris.up).1 y.bn (List.mem_map.2 ⟨y, List.mem_of_getElem? hy, rfl⟩)
          simpa [Rn.bn] using this
        have hyt := (M.mem.ok y (List.mem_cons_of_mem _ (List.mem_of_getElem? hy))).top
        have S := H.step hg hy
        rw [hpl] at z1 S
        have eN : ((y.a - rl.length : Nat) : Int) = (y.a : Int) - rl.length := by omega
        rw [eN] at S
        have HS := Lib.hid S
        have HY := Lib.hid hy
        have HY' := Lib.hid hy'
        clear S hy hy' eN hpl
        go_wp2
        go_roundw
        case rel => exact ⟨k + 1, _, by omega, by go_num, HS.out⟩
        case measure => simp [intOf]; omega
      · go_wp2
        go_ret
        rw [← HM.out]; exact put_end M (by simp) rfl HB.out hg (by omega) (.inr (by simp [Rn.cells])) H (by omega)
set_option maxHeartbeats 1600000 in
theorem put_z2 {w : World} {b off : Nat} {T : TypeId} {cur : List Value} {p : Option Addr} {rs : List Rn} (h : PcAt w b off T cur p rs) (X : List Bn) (hX : rs.map Rn.bn = X) (ahead : Nat) (q : Option Addr) (n c : Nat) (ha : 1048560 ≤ ahead) (ha2 : ahead ≤ 1048560) (hnc : n ≤ c) (hz : n ≤ 0) (hc9 : c ≤ 9223372036854775807) :
    Calls Try.prog 26 #[.pointer (some ⟨b, off, none⟩), .int .i64 ahead, .slice q n c] w (PutDone w b off T cur p rs (putOut X)) := by
  have M : PutMid w b off T cur p rs w cur p rs := ⟨h.toPcMem, Kp.refl _ _, fun _ => rfl, fun i hi => .inl hi, fun i hi => .inl hi, h.runs.toRises⟩
  generalize hrs : rs = rsI at M hX
  generalize hp : p = pI at M
  generalize hcu : cur = curI at M
  have HE := Lib.hid (And.intro hrs (And.intro hp hcu))
  have HM := Lib.hid hX
  clear hrs hp hcu hX
  go_enter Try.func26, Try.ntmps26
  rcases putCases M with ⟨rfl, pc, x1⟩ | ⟨r, l, g, pre, post, pc, rfl, rfl, x1, y1, h0, h0b, hpc, hlen, HB⟩ | ⟨rp, rl, rc, g, pre, post, rfl, rfl, x1, x2, y1, y2, hg, hoff, HB⟩ | ⟨rp, rl, rc, l, g, pre, post, pc, rfl, rfl, x1, x2, y1, y2, hg, hoff, hc1, hpc, hlen, HB⟩
  all_goals go_wp2
  · go_ret
    rw [← HM.out]; exact M.none (by repeat (first | exact Kp.refl _ _ | assumption | apply Kp.drewN | apply Kp.alloc)) rfl
  · go_ret
    rw [← HM.out]; exact M.none (by repeat (first | exact Kp.refl _ _ | assumption | apply Kp.drewN | apply Kp.alloc)) (by unfold putOut; simp [Rn.bn, h0])
  · go_loopw [8, 81] (fun iv kv wr => kv = .int .i64 (0 : Nat) ∧ PutLoop w wr b off T curI (.slice (some ⟨g, pre.length, none⟩) (0 : Nat) (0 : Nat)) g (pre ++ Rn.cells ⟨0, .slice rp rl.length rc, rl⟩) post [] rl.length 0 []) (fun _ kv _ => 0)
    case atStart =>
      have hB2 : Blk w g ((pre ++ Rn.cells ⟨0, .slice rp rl.length rc, rl⟩) ++ cellsOf [] ++ post) 70 := by have := HB.out; simpa [cellsOf] using this
      exact ⟨rfl, ⟨M.mem.blk.set off _, hB2.other (a := ⟨b, off, none⟩) (fun e => hg e.symm) _, rfl, by simp, (Kp.refl _ _).setCell (.inl (by simp)) _⟩⟩
    case round =>
      obtain ⟨rfl, H⟩ := hrel
      go_wp2
      go_ret
      rw [← HM.out]; exact put_end M (by simp) rfl HB.out hg (by simp) (.inl ⟨rfl, rfl⟩) H (by simp)
  · go_loopw [8, 81] (fun iv kv wr => ∃ (k : Nat) (l' : List Rn), k ≤ l.length ∧ kv = .int .i64 k ∧ PutLoop w wr b off T curI (.slice (some ⟨g, pre.length + 2, none⟩) l.length (pc - 1)) g (pre ++ Rn.cells ⟨0, .slice rp rl.length rc, rl⟩) post l rl.length k l') (fun _ kv _ => l.length - (intOf kv).toNat)
    case atStart =>
      have hB2 : Blk w g ((pre ++ Rn.cells ⟨0, .slice rp rl.length rc, rl⟩) ++ cellsOf l ++ post) 70 := by have := HB.out; simpa [cellsOf] using this
      refine ⟨0, l, Nat.zero_le _, rfl, ⟨M.mem.blk.set off _, hB2.other (a := ⟨b, off, none⟩) (fun e => hg e.symm) _, rfl, by simp, (Kp.refl _ _).setCell (.inl (by simp)) _⟩⟩
    case round =>
      obtain ⟨k, l', hk, rfl, H⟩ := hrel
      have b1 := H.box.cell (off := off) (v := .slice (some ⟨g, pre.length + 2, none⟩) l.length (pc - 1)) (by simp [hoff])
      by_cases hlt : k < l.length
      · obtain ⟨y, hy⟩ : ∃ y, l[k]? = some y := ⟨_, List.getElem?_eq_getElem hlt⟩
        have hy' : l'[k]? = some y := by rw [H.at_ k y hy, if_neg (by omega)]
        obtain ⟨z1, _⟩ := row_cells H.row hy'
        have zf := H.row.frozen (pre.length + 2 + k * 2)
        have hpl : (pre ++ Rn.cells ⟨0, .slice rp rl.length rc, rl⟩).length = pre.length + 2 := by simp [Rn.cells]
        have hya : rl.length < y.a := by
          have := (List.pairwise_cons.1 M.ris.up).1 y.bn (List.mem_map.2 ⟨y, List.mem_of_getElem? hy, rfl⟩)
          simpa [Rn.bn] using this
        have hyt := (M.mem.ok y (List.mem_cons_of_mem _ (List.mem_of_getElem? hy))).top
        have S := H.step hg hy
        rw [hpl] at z1 S
        have eN : ((y.a - rl.length : Nat) : Int) = (y.a : Int) - rl.length := by omega
        rw [eN] at S
        have HS := Lib.hid S
        have HY := Lib.hid hy
        have HY' := Lib.hid hy'
        clear S hy hy' eN hpl
        go_wp2
        go_roundw
        case rel => exact ⟨k + 1, _, by omega, by go_num, HS.out⟩
        case measure => simp [intOf]; omega
      · go_wp2
        go_ret
        rw [← HM.out]; exact put_end M (by simp) rfl HB.out hg (by omega) (.inr (by simp [Rn.cells])) H (by omega)
set_option maxHeartbeats 1600000 in
theorem put_z3 {w : World} {b off : Nat} {T : TypeId} {cur : List Value} {p : Option Addr} {rs : List Rn} (h : PcAt w b off T cur p rs) (X : List Bn) (hX : rs.map Rn.bn = X) (ahead : Nat) (q : Option Addr) (n c : Nat) (ha : 1048560 ≤ ahead) (ha2 : ahead ≤ 1048560) (hnc : n ≤ c) (hz : 0 < n) (hc9 : c ≤ 9223372036854775807) :
    Calls Try.prog 26 #[.pointer (some ⟨b, off, none⟩), .int .i64 ahead, .slice q n c] w (PutDone w b off T cur p rs (putOut X)) := by
  have M : PutMid w b off T cur p rs w cur p rs := ⟨h.toPcMem, Kp.refl _ _, fun _ => rfl, fun i hi => .inl hi, fun i hi => .inl hi, h.runs.toRises⟩
  generalize hrs : rs = rsI at M hX
  generalize hp : p = pI at M
  generalize hcu : cur = curI at M
  have HE := Lib.hid (And.intro hrs (And.intro hp hcu))
  have HM := Lib.hid hX
  clear hrs hp hcu hX
  go_enter Try.func26, Try.ntmps26
  rcases putCases M with ⟨rfl, pc, x1⟩ | ⟨r, l, g, pre, post, pc, rfl, rfl, x1, y1, h0, h0b, hpc, hlen, HB⟩ | ⟨rp, rl, rc, g, pre, post, rfl, rfl, x1, x2, y1, y2, hg, hoff, HB⟩ | ⟨rp, rl, rc, l, g, pre, post, pc, rfl, rfl, x1, x2, y1, y2, hg, hoff, hc1, hpc, hlen, HB⟩
  all_goals go_wp2
  · go_ret
    rw [← HM.out]; exact M.none (by repeat (first | exact Kp.refl _ _ | assumption | apply Kp.drewN | apply Kp.alloc)) rfl
  · go_ret
    rw [← HM.out]; exact M.none (by repeat (first | exact Kp.refl _ _ | assumption | apply Kp.drewN | apply Kp.alloc)) (by unfold putOut; simp [Rn.bn, h0])
  · go_loopw [8, 81] (fun iv kv wr => kv = .int .i64 (0 : Nat) ∧ PutLoop w wr b off T curI (.slice (some ⟨g, pre.length, none⟩) (0 : Nat) (0 : Nat)) g (pre ++ Rn.cells ⟨0, .slice rp rl.length rc, rl⟩) post [] rl.length 0 []) (fun _ kv _ => 0)
    case atStart =>
      have hB2 : Blk w g ((pre ++ Rn.cells ⟨0, .slice rp rl.length rc, rl⟩) ++ cellsOf [] ++ post) 70 := by have := HB.out; simpa [cellsOf] using this
      exact ⟨rfl, ⟨M.mem.blk.set off _, hB2.other (a := ⟨b, off, none⟩) (fun e => hg e.symm) _, rfl, by simp, (Kp.refl _ _).setCell (.inl (by simp)) _⟩⟩
    case round =>
      obtain ⟨rfl, H⟩ := hrel
      go_wp2
      go_ret
      rw [← HM.out]; exact put_end M (by simp) rfl HB.out hg (by simp) (.inl ⟨rfl, rfl⟩) H (by simp)
  · go_loopw [8, 81] (fun iv kv wr => ∃ (k : Nat) (l' : List Rn), k ≤ l.length ∧ kv = .int .i64 k ∧ PutLoop w wr b off T curI (.slice (some ⟨g, pre.length + 2, none⟩) l.length (pc - 1)) g (pre ++ Rn.cells ⟨0, .slice rp rl.length rc, rl⟩) post l rl.length k l') (fun _ kv _ => l.length - (intOf kv).toNat)
    case atStart =>
      have hB2 : Blk w g ((pre ++ Rn.cells ⟨0, .slice rp rl.length rc, rl⟩) ++ cellsOf l ++ post) 70 := by have := HB.out; simpa [cellsOf] using this
      refine ⟨0, l, Nat.zero_le _, rfl, ⟨M.mem.blk.set off _, hB2.other (a := ⟨b, off, none⟩) (fun e => hg e.symm) _, rfl, by simp, (Kp.refl _ _).setCell (.inl (by simp)) _⟩⟩
    case round =>
      obtain ⟨k, l', hk, rfl, H⟩ := hrel
      have b1 := H.box.cell (off := off) (v := .slice (some ⟨g, pre.length + 2, none⟩) l.length (pc - 1)) (by simp [hoff])
      by_cases hlt : k < l.length
      · obtain ⟨y, hy⟩ : ∃ y, l[k]? = some y := ⟨_, List.getElem?_eq_getElem hlt⟩
        have hy' : l'[k]? = some y := by rw [H.at_ k y hy, if_neg (by omega)]
        obtain ⟨z1, _⟩ := row_cells H.row hy'
        have zf := H.row.frozen (pre.length + 2 + k * 2)
        have hpl : (pre ++ Rn.cells ⟨0, .slice rp rl.length rc, rl⟩).length = pre.length + 2 := by simp [Rn.cells]
        have hya : rl.length < y.a := by
          have := (List.pairwise_cons.1 M.ris.up).1 y.bn (List.mem_map.2 ⟨y, List.mem_of_getElem? hy, rfl⟩)
          simpa [Rn.bn] using this
        have hyt := (M.mem.ok y (List.mem_cons_of_mem _ (List.mem_of_getElem? hy))).top
        have S := H.step hg hy
        rw [hpl] at z1 S
        have eN : ((y.a - rl.length : Nat) : Int) = (y.a : Int) - rl.length := by omega
        rw [eN] at S
        have HS := Lib.hid S
        have HY := Lib.hid hy
        have HY' := Lib.hid hy'
        clear S hy hy' eN hpl
        go_wp2
        go_roundw
        case rel => exact ⟨k + 1, _, by omega, by go_num, HS.out⟩
        case measure => simp [intOf]; omega
      · go_wp2
        go_ret
        rw [← HM.out]; exact put_end M (by simp) rfl HB.out hg (by omega) (.inr (by simp [Rn.cells])) H (by omega)
set_option maxHeartbeats 1600000 in
theorem put_n1 {w : World} {b off : Nat} {T : TypeId} {cur : List Value} {p : Option Addr} {rs : List Rn} (h : PcAt w b off T cur p rs) (X : List Bn) (hX : rs.map Rn.bn = X) (k : Nat) (q : Option Addr) (n : Nat) (hk : 0 < k) (ha : k ≤ 1048560) (hz : n ≤ k) (hc9 : n ≤ 9223372036854775807) :
    Calls Try.prog 26 #[.pointer (some ⟨b, off, none⟩), .int .i64 (-(k : Int)), .slice q n n] w (PutDone w b off T cur p rs (putOut X)) := by
  have M : PutMid w b off T cur p rs w cur p rs := ⟨h.toPcMem, Kp.refl _ _, fun _ => rfl, fun i hi => .inl hi, fun i hi => .inl hi, h.runs.toRises⟩
  generalize hrs : rs = rsI at M hX
  generalize hp : p = pI at M
  generalize hcu : cur = curI at M
  have HE := Lib.hid (And.intro hrs (And.intro hp hcu))
  have HM := Lib.hid hX
  clear hrs hp hcu hX
  go_enter Try.func26, Try.ntmps26
  rcases putCases M with ⟨rfl, pc, x1⟩ | ⟨r, l, g, pre, post, pc, rfl, rfl, x1, y1, h0, h0b, hpc, hlen, HB⟩ | ⟨rp, rl, rc, g, pre, post, rfl, rfl, x1, x2, y1, y2, hg, hoff, HB⟩ | ⟨rp, rl, rc, l, g, pre, post, pc, rfl, rfl, x1, x2, y1, y2, hg, hoff, hc1, hpc, hlen, HB⟩
  all_goals go_wp2
  · go_ret
    rw [← HM.out]; exact M.none (by repeat (first | exact Kp.refl _ _ | assumption | apply Kp.drewN | apply Kp.alloc)) rfl
  · go_ret
    rw [← HM.out]; exact M.none (by repeat (first | exact Kp.refl _ _ | assumption | apply Kp.drewN | apply Kp.alloc)) (by unfold putOut; simp [Rn.bn, h0])
  · go_loopw [8, 81] (fun iv kv wr => kv = .int .i64 (0 : Nat) ∧ PutLoop w wr b off T curI (.slice (some ⟨g, pre.length, none⟩) (0 : Nat) (0 : Nat)) g (pre ++ Rn.cells ⟨0, .slice rp rl.length rc, rl⟩) post [] rl.length 0 []) (fun _ kv _ => 0)
    case atStart =>
      have hB2 : Blk w g ((pre ++ Rn.cells ⟨0, .slice rp rl.length rc, rl⟩) ++ cellsOf [] ++ post) 70 := by have := HB.out; simpa [cellsOf] using this
      exact ⟨rfl, ⟨M.mem.blk.set off _, hB2.other (a := ⟨b, off, none⟩) (fun e => hg e.symm) _, rfl, by simp, (Kp.refl _ _).setCell (.inl (by simp)) _⟩⟩
    case round =>
      obtain ⟨rfl, H⟩ := hrel
      go_wp2
      go_ret
      rw [← HM.out]; exact put_end M (by simp) rfl HB.out hg (by simp) (.inl ⟨rfl, rfl⟩) H (by simp)
  · go_loopw [8, 81] (fun iv kv wr => ∃ (k : Nat) (l' : List Rn), k ≤ l.length ∧ kv = .int .i64 k ∧ PutLoop w wr b off T curI (.slice (some ⟨g, pre.length + 2, none⟩) l.length (pc - 1)) g (pre ++ Rn.cells ⟨0, .slice rp rl.length rc, rl⟩) post l rl.length k l') (fun _ kv _ => l.length - (intOf kv).toNat)
    case atStart =>
      have hB2 : Blk w g ((pre ++ Rn.cells ⟨0, .slice rp rl.length rc, rl⟩) ++ cellsOf l ++ post) 70 := by have := HB.out; simpa [cellsOf] using this
      refine ⟨0, l, Nat.zero_le _, rfl, ⟨M.mem.blk.set off _, hB2.other (a := ⟨b, off, none⟩) (fun e => hg e.symm) _, rfl, by simp, (Kp.refl _ _).setCell (.inl (by simp)) _⟩⟩
    case round =>
      obtain ⟨k, l', hk, rfl, H⟩ := hrel
      have b1 := H.box.cell (off := off) (v := .slice (some ⟨g, pre.length + 2, none⟩) l.length (pc - 1)) (by simp [hoff])
      by_cases hlt : k < l.length
      · obtain ⟨y, hy⟩ : ∃ y, l[k]? = some y := ⟨_, List.getElem?_eq_getElem hlt⟩
        have hy' : l'[k]? = some y := by rw [H.at_ k y hy, if_neg (by omega)]
        obtain ⟨z1, _⟩ := row_cells H.row hy'
        have zf := H.row.frozen (pre.length + 2 + k * 2)
        have hpl : (pre ++ Rn.cells ⟨0, .slice rp rl.length rc, rl⟩).length = pre.length + 2 := by simp [Rn.cells]
        have hya : rl.length < y.a := by
          have := (List.pairwise_cons.1 M.ris.up).1 y.bn (List.mem_map.2 ⟨y, List.mem_of_getElem? hy, rfl⟩)
          simpa [Rn.bn] using this
        have hyt := (M.mem.ok y (List.mem_cons_of_mem _ (List.mem_of_getElem? hy))).top
        have S := H.step hg hy
        rw [hpl] at z1 S
        have eN : ((y.a - rl.length : Nat) : Int) = (y.a : Int) - rl.length := by omega
        rw [eN] at S
        have HS := Lib.hid S
        have HY := Lib.hid hy
        have HY' := Lib.hid hy'
        clear S hy hy' eN hpl
        go_wp2
        go_roundw
        case rel => exact ⟨k + 1, _, by omega, by go_num, HS.out⟩
        case measure => simp [intOf]; omega
      · go_wp2
        go_ret
        rw [← HM.out]; exact put_end M (by simp) rfl HB.out hg (by omega) (.inr (by simp [Rn.cells])) H (by omega)
set_option maxHeartbeats 1600000 in
theorem put_n2 {w : World} {b off : Nat} {T : TypeId} {cur : List Value} {p : Option Addr} {rs : List Rn} (h : PcAt w b off T cur p rs) (X : List Bn) (hX : rs.map Rn.bn = X) (k : Nat) (q : Option Addr) (n c : Nat) (hk : 0 < k) (ha : k ≤ 1048560) (hz : n ≤ k) (hnc : n < c) (hc9 : c ≤ 9223372036854775807) :
    Calls Try.prog 26 #[.pointer (some ⟨b, off, none⟩), .int .i64 (-(k : Int)), .slice q n c] w (PutDone w b off T cur p rs (putOut X)) := by
  have M : PutMid w b off T cur p rs w cur p rs := ⟨h.toPcMem, Kp.refl _ _, fun _ => rfl, fun i hi => .inl hi, fun i hi => .inl hi, h.runs.toRises⟩
  generalize hrs : rs = rsI at M hX
  generalize hp : p = pI at M
  generalize hcu : cur = curI at M
  have HE := Lib.hid (And.intro hrs (And.intro hp hcu))
  have HM := Lib.hid hX
  clear hrs hp hcu hX
  go_enter Try.func26, Try.ntmps26
  rcases putCases M with ⟨rfl, pc, x1⟩ | ⟨r, l, g, pre, post, pc, rfl, rfl, x1, y1, h0, h0b, hpc, hlen, HB⟩ | ⟨rp, rl, rc, g, pre, post, rfl, rfl, x1, x2, y1, y2, hg, hoff, HB⟩ | ⟨rp, rl, rc, l, g, pre, post, pc, rfl, rfl, x1, x2, y1, y2, hg, hoff, hc1, hpc, hlen, HB⟩
  all_goals go_wp2
  · go_ret
    rw [← HM.out]; exact M.none (by repeat (first | exact Kp.refl _ _ | assumption | apply Kp.drewN | apply Kp.alloc)) rfl
  · go_ret
    rw [← HM.out]; exact M.none (by repeat (first | exact Kp.refl _ _ | assumption | apply Kp.drewN | apply Kp.alloc)) (by unfold putOut; simp [Rn.bn, h0])
  · go_loopw [8, 81] (fun iv kv wr => kv = .int .i64 (0 : Nat) ∧ PutLoop w wr b off T curI (.slice (some ⟨g, pre.length, none⟩) (0 : Nat) (0 : Nat)) g (pre ++ Rn.cells ⟨0, .slice rp rl.length rc, rl⟩) post [] rl.length 0 []) (fun _ kv _ => 0)
    case atStart =>
      have hB2 : Blk w g ((pre ++ Rn.cells ⟨0, .slice rp rl.length rc, rl⟩) ++ cellsOf [] ++ post) 70 := by have := HB.out; simpa [cellsOf] using this
      exact ⟨rfl, ⟨M.mem.blk.set off _, hB2.other (a := ⟨b, off, none⟩) (fun e => hg e.symm) _, rfl, by simp, (Kp.refl _ _).setCell (.inl (by simp)) _⟩⟩
    case round =>
      obtain ⟨rfl, H⟩ := hrel
      go_wp2
      go_ret
      rw [← HM.out]; exact put_end M (by simp) rfl HB.out hg (by simp) (.inl ⟨rfl, rfl⟩) H (by simp)
  · go_loopw [8, 81] (fun iv kv wr => ∃ (k : Nat) (l' : List Rn), k ≤ l.length ∧ kv = .int .i64 k ∧ PutLoop w wr b off T curI (.slice (some ⟨g, pre.length + 2, none⟩) l.length (pc - 1)) g (pre ++ Rn.cells ⟨0, .slice rp rl.length rc, rl⟩) post l rl.length k l') (fun _ kv _ => l.length - (intOf kv).toNat)
    case atStart =>
      have hB2 : Blk w g ((pre ++ Rn.cells ⟨0, .slice rp rl.length rc, rl⟩) ++ cellsOf l ++ post) 70 := by have := HB.out; simpa [cellsOf] using this
      refine ⟨0, l, Nat.zero_le _, rfl, ⟨M.mem.blk.set off _, hB2.other (a := ⟨b, off, none⟩) (fun e => hg e.symm) _, rfl, by simp, (Kp.refl _ _).setCell (.inl (by simp)) _⟩⟩
    case round =>
      obtain ⟨k, l', hk, rfl, H⟩ := hrel
      have b1 := H.box.cell (off := off) (v := .slice (some ⟨g, pre.length + 2, none⟩) l.length (pc - 1)) (by simp [hoff])
      by_cases hlt : k < l.length
      · obtain ⟨y, hy⟩ : ∃ y, l[k]? = some y := ⟨_, List.getElem?_eq_getElem hlt⟩
        have hy' : l'[k]? = some y := by rw [H.at_ k y hy, if_neg (by omega)]
        obtain ⟨z1, _⟩ := row_cells H.row hy'
        have zf := H.row.frozen (pre.length + 2 + k * 2)
        have hpl : (pre ++ Rn.cells ⟨0, .slice rp rl.length rc, rl⟩).length = pre.length + 2 := by simp [Rn.cells]
        have hya : rl.length < y.a := by
          have := (List.pairwise_cons.1 M.ris.up).1 y.bn (List.mem_map.2 ⟨y, List.mem_of_getElem? hy, rfl⟩)
          simpa [Rn.bn] using this
        have hyt := (M.mem.ok y (List.mem_cons_of_mem _ (List.mem_of_getElem? hy))).top
        have S := H.step hg hy
        rw [hpl] at z1 S
        have eN : ((y.a - rl.length : Nat) : Int) = (y.a : Int) - rl.length := by omega
        rw [eN] at S
        have HS := Lib.hid S
        have HY := Lib.hid hy
        have HY' := Lib.hid hy'
        clear S hy hy' eN hpl
        go_wp2
        go_roundw
        case rel => exact ⟨k + 1, _, by omega, by go_num, HS.out⟩
        case measure => simp [intOf]; omega
      · go_wp2
        go_ret
        rw [← HM.out]; exact put_end M (by simp) rfl HB.out hg (by omega) (.inr (by simp [Rn.cells])) H (by omega)

set_option maxHeartbeats 1600000 in
theorem put_out {w : World} {b off : Nat} {T : TypeId} {cur : List Value} {p : Option Addr} {rs : List Rn} (h : PcAt w b off T cur p rs) (ahead : Int) (q : Option Addr) (n c : Nat) (ha : ahead < -1048560 ∨ 1048560 < ahead) :
    Calls Try.prog 26 #[.pointer (some ⟨b, off, none⟩), .int .i64 ahead, .slice q n c] w (PutDone w b off T cur p rs ([], rs.map Rn.bn)) := by
  have M : PutMid w b off T cur p rs w cur p rs := ⟨h.toPcMem, Kp.refl _ _, fun _ => rfl, fun i hi => .inl hi, fun i hi => .inl hi, h.runs.toRises⟩
  have HM := Lib.hid M
  clear M
  rcases ha with ha | ha
  all_goals
    go_enter Try.func26, Try.ntmps26
    go_wp2
    go_ret
    exact HM.out.none' (by repeat (first | exact Kp.refl _ _ | assumption | apply Kp.drewN | apply Kp.alloc))

end Go.Proofs.Ytodedpmedkgkmaa

/-
  ring.Ring: what each method does to a ring that holds q, in a room.
-/
import Derived.Test.YtodedpmedkgkmaaRows
import Derived.Test.YtodedpmedkgkmaaRingPlain
import Derived.Test.YtodedpmedkgkmaaMix
import Derived.Test.YtodedpmedkgkmaaHelp
set_option linter.unusedVariables false
set_option linter.unusedSimpArgs false
namespace Go.Proofs.Ytodedpmedkgkmaa
open Go.RowKit



/-- the Ring whose block is b, of a row in block rb, holds q in its room: the row, the place of the first -/
structure RingRaw (w : World) (b rb room : Nat) (q : List UInt8) (row : List UInt8) (at_ : Nat) : Prop where
  len : row.length = room
  big : room ≤ 1048560
  lt : at_ < room
  fits : q.length ≤ room
  ne : b ≠ rb
  blk : Blk w b [.slice (some ⟨rb, 0, none⟩) room room, .int .i64 at_, .int .i64 q.length] 56
  rblk : Blk w rb (row.map bv) 5
  holds : Holds row at_ q

def RingAt (w : World) (b rb room : Nat) (q : List UInt8) : Prop := ∃ row at_, RingRaw w b rb room q row at_

section
variable {w : World} {b rb room : Nat} {q row : List UInt8} {at_ : Nat}

theorem RingRaw.drewN (h : RingRaw w b rb room q row at_) (n : Nat) : RingRaw (w.drewN n) b rb room q row at_ := ⟨h.len, h.big, h.lt, h.fits, h.ne, h.blk, h.rblk, h.holds⟩
theorem RingRaw.kp {w' : World} {L : List Nat} (h : RingRaw w b rb room q row at_) (k : Kp L w w') (h1 : b ∉ L) (h2 : rb ∉ L) : RingRaw w' b rb room q row at_ := ⟨h.len, h.big, h.lt, h.fits, h.ne, k.blk h.blk h1, k.blk h.rblk h2, h.holds⟩
theorem RingAt.drewN (h : RingAt w b rb room q) (n : Nat) : RingAt (w.drewN n) b rb room q := let ⟨_, _, h⟩ := h; ⟨_, _, h.drewN n⟩
theorem RingAt.kp {w' : World} {L : List Nat} (h : RingAt w b rb room q) (k : Kp L w w') (h1 : b ∉ L) (h2 : rb ∉ L) : RingAt w' b rb room q := let ⟨_, _, h⟩ := h; ⟨_, _, h.kp k h1 h2⟩

set_option maxHeartbeats 400000 in
theorem len_any (h : RingRaw w b rb room q row at_) :
    Calls Try.prog 22 #[.pointer (some ⟨b, 0, none⟩)] w fun e w' => e = .returned (.int .i64 q.length) ∧ ∃ m, w' = w.drewN m := by
  have c2 := h.blk.cell (off := 2) rfl
  go_enter Try.func22, Try.ntmps22
  go_wp2
  go_ret
  exact ⟨rfl, 0, rfl⟩

set_option maxHeartbeats 400000 in
theorem free_any (h : RingRaw w b rb room q row at_) (fr : Int) (hfr : (room : Int) - q.length = fr) :
    Calls Try.prog 24 #[.pointer (some ⟨b, 0, none⟩)] w fun e w' => e = .returned (.int .i64 fr) ∧ ∃ m, w' = w.drewN m := by
  subst hfr
  have c0 := h.blk.cell (off := 0) rfl
  have c2 := h.blk.cell (off := 2) rfl
  have h1 := h.big
  have h2 := h.fits
  go_enter Try.func24, Try.ntmps24
  go_wp2
  go_quiet (fail)
  go_wp2
  go_ret
  exact ⟨rfl, _, rfl⟩

set_option maxHeartbeats 400000 in
theorem place_any (h : RingRaw w b rb room q row at_) (i : Nat) (hi : i ≤ room) (s : Nat) (hs : (at_ + i) % room = s) :
    Calls Try.prog 32 #[.pointer (some ⟨b, 0, none⟩), .int .i64 i] w fun e w' => e = .returned (.int .i64 s) ∧ ∃ m, w' = w.drewN m := by
  subst hs
  have c0 := h.blk.cell (off := 0) rfl
  have c1 := h.blk.cell (off := 1) rfl
  have h1 := h.big
  have h2 := h.lt
  rw [show ((at_ + i) % room : Nat) = (((at_ : Int) + i) % room) by simp]
  go_enter Try.func32, Try.ntmps32
  go_wp2
  go_quiet (fail)
  go_wp2
  go_ret
  exact ⟨rfl, _, rfl⟩

theorem write_post (h : RingRaw w b rb room q row at_) {p : List UInt8} {s m k1 n1 n2 : Nat} {w1 w2 : World} (hs : (at_ + q.length) % room = s) (hm1 : m ≤ p.length) (hm2 : m ≤ room - s) (hm : m = min p.length (room - s))
    (k2 : Blk w2 b [.slice (some ⟨rb, 0, none⟩) room room, .int .i64 at_, .int .i64 q.length] 56)
    (hb2 : Blk w2 rb ((splice (splice row s (p.take m)) 0 (p.drop m)).map bv) 5) (hk1 : Kp [rb] ((w.drewN k1).drewN n1) w1) (hk2 : Kp [rb] (w1.drewN n2) w2) (hp : q.length + p.length ≤ room) :
    Ending.returned (Value.int .i64 p.length) = .returned (.int .i64 p.length) ∧ (RingAt (w2.setCell ⟨b, 2, none⟩ (.int .i64 (q.length + p.length : Int))) b rb room (q ++ p)) ∧ Kp [b, rb] w (w2.setCell ⟨b, 2, none⟩ (.int .i64 (q.length + p.length : Int))) := by
  have hl := h.len
  subst hm
  subst hs
  have H := holds_write (p := p) (by rw [hl]; exact h.lt) (by rw [hl]; exact hp) h.holds
  rw [hl] at H
  have hlt := Nat.mod_lt (at_ + q.length) (show 0 < room by have := h.lt; omega)
  have l1 : (at_ + q.length) % room + (p.take (min p.length (room - (at_ + q.length) % room))).length ≤ row.length := by rw [hl]; simp; omega
  have l2 : 0 + (p.drop (min p.length (room - (at_ + q.length) % room))).length ≤ (splice row ((at_ + q.length) % room) (p.take (min p.length (room - (at_ + q.length) % room)))).length := by
    rw [length_splice' l1, hl]; simp; omega
  refine ⟨rfl, ⟨_, at_, ?_, h.big, h.lt, by simp; exact hp, h.ne, ?_, hb2.other h.ne _, H⟩, ?_⟩
  · rw [length_splice' l2, length_splice' l1, hl]
  · have := k2.set 2 (.int .i64 (q.length + p.length : Int))
    simpa using this
  · have a1 : Kp [b, rb] w w1 := ((Kp.refl [b, rb] w).drewN (k1 + n1)).trans' (k := (by simpa using hk1)) (fun i hi => .inl hi) (fun i hi => .inl (by simp at hi ⊢; exact .inr hi))
    have a2 : Kp [b, rb] w w2 := (a1.drewN n2).trans' (k := hk2) (fun i hi => .inl hi) (fun i hi => .inl (by simp at hi ⊢; exact .inr hi))
    exact a2.setCell (.inl (by simp)) _

set_option maxHeartbeats 800000 in
theorem write_fit (h : RingRaw w b rb room q row at_) (p : List UInt8) (pb po pc pl : Nat) (hn : q.length < room)
   (hp : ∀ i, i < p.length → w.cell? ⟨pb, po + i, none⟩ = some (bv (p.getD i 0))) (hpb : pb ≠ rb) (hpc : pl ≤ pc) (hpl : pl ≤ maxLen) (hk : 0 < p.length)
   (hfit : (pl ≤ room - q.length ∧ p.length = pl) ∨ (room - q.length < pl ∧ p.length = room - q.length)) :
    Calls Try.prog 13 #[.pointer (some ⟨b, 0, none⟩), .slice (some ⟨pb, po, none⟩) pl pc] w fun e w' => e = .returned (.int .i64 p.length) ∧ (RingAt w' b rb room (q ++ p)) ∧ Kp [b, rb] w w' := by
  have c0 := h.blk.cell (off := 0) rfl
  have c2 := h.blk.cell (off := 2) rfl
  have f2 := h.blk.frozen 2
  have h1 := h.big
  have h2 := h.lt
  have hne := h.ne
  unfold maxLen at hpl
  have HP := Lib.hid hp
  clear hp
  obtain ⟨s, hs⟩ : ∃ s, (at_ + q.length) % room = s := ⟨_, rfl⟩
  have hs2 := Nat.mod_lt (at_ + q.length) (show 0 < room by omega)
  rw [hs] at hs2
  have S := Lib.hid hs
  clear hs
  obtain ⟨m, hm⟩ : ∃ m, m = min p.length (room - s) := ⟨_, rfl⟩
  have hm1 : m ≤ p.length := by omega
  have hm2 : m ≤ room - s := by omega
  have M := Lib.hid hm
  clear hm
  have hl := Lib.hid h.len
  rcases hfit with ⟨hmin, he⟩ | ⟨hmin, he⟩
  · subst he
    go_enter Try.func13, Try.ntmps13
    have hnz : ((p.length : Int) == 0) = false := by rw [beq_eq_false_iff_ne]; omega
    go_wp2_with (go_at_call 24; refine (free_any h ((room - q.length : Nat) : Int) (by omega)).mono ?_; rintro e w' ⟨rfl, k1, rfl⟩)
    refine wp_region_mix [([0, 4, 5, 11, 1, 6, 2, 7, 3, 8, 9, 10], [12, 13], [])] (by kernel_rfl) (by kernel_rfl) ?_
    refine mix_cons' (by repeat (first | exact pick_end | apply (pick_step rfl))) (by repeat (first | exact pick_end | apply (pick_step rfl))) ?_
    repeat (go_big_quiet_step ((go_at_call 32; exact quiet_add (place_any (h.drewN _) q.length (by omega) s S.out))))
    refine wpQuiet_nil ?_
    intro nq
    refine wpList_copy_mem rfl (.tmp 26) (.tmp 27) 32 32 rfl 5 Try.underlying32 (by kernel_rfl) _ _ _ _ _ _ rfl rfl rb s row 5 (by exact h.rblk) (p.take m) m (by simp only [List.length_take]; omega) (by have := M.out; omega) ?_ (by rw [hl.out]; omega) ?_
    · intro _
      exact ⟨rfl, pb, po, rfl, fun j hj => by rw [getD_take' (by omega)]; exact HP.out j (by omega)⟩
    intro w1 hb1 hk1
    have d0 := hk1.cell (by exact c0) (by simpa using hne)
    have d2 := hk1.cell (by exact c2) (by simpa using hne)
    have e2 : w1.frozen? ⟨b, 2, none⟩ = false := (hk1.blk (by exact h.blk) (by simpa using hne)).frozen 2
    go_wp2_with fail
    refine mix_nil ?_
    go_wp2_with fail
    by_cases hpm : pc = m
    · refine wp_region_mix [([0, 4, 5, 1, 6, 2, 3], [7], [])] (by kernel_rfl) (by kernel_rfl) ?_
      refine mix_cons' (by repeat (first | exact pick_end | apply (pick_step rfl))) (by repeat (first | exact pick_end | apply (pick_step rfl))) ?_
      repeat (go_big_quiet_step (fail))
      refine wpQuiet_nil ?_
      intro nq
      refine wpList_copy_mem rfl (.tmp 32) (.tmp 35) 32 32 rfl 5 Try.underlying32 (by kernel_rfl) _ _ _ _ _ _ rfl rfl rb 0 _ 5 (by exact hb1) (p.drop m) (p.length - m) (by simp) (by omega) ?_ (by rw [length_splice' (by rw [hl.out]; simp; omega), hl.out]; omega) ?_
      · intro hpos
        first
          | (exfalso; omega)
          | exact ⟨rfl, pb, po + m, rfl, fun j hj => by rw [getD_drop', Nat.add_assoc]; exact hk1.cell (by exact HP.out (m + j) (by omega)) (by simpa using hpb)⟩
      intro w2 hb2 hk2
      have g2 := hk2.cell (by exact d2) (by simpa using hne)
      have k2 := (hk2.blk (by exact hk1.blk (by exact h.blk) (by simpa using hne)) (by simpa using hne))
      have e3 := k2.frozen 2
      have K2 := Lib.hid k2
      clear k2
      go_wp2_with fail
      refine mix_nil ?_
      go_wp2_with fail
      go_ret
      exact write_post h S.out hm1 hm2 M.out K2.out hb2 hk1 hk2 (by omega)
    · refine wp_region_mix [([0, 4, 5, 1, 6, 2, 3], [7], [])] (by kernel_rfl) (by kernel_rfl) ?_
      refine mix_cons' (by repeat (first | exact pick_end | apply (pick_step rfl))) (by repeat (first | exact pick_end | apply (pick_step rfl))) ?_
      repeat (go_big_quiet_step (fail))
      refine wpQuiet_nil ?_
      intro nq
      refine wpList_copy_mem rfl (.tmp 32) (.tmp 35) 32 32 rfl 5 Try.underlying32 (by kernel_rfl) _ _ _ _ _ _ rfl rfl rb 0 _ 5 (by exact hb1) (p.drop m) (p.length - m) (by simp) (by omega) ?_ (by rw [length_splice' (by rw [hl.out]; simp; omega), hl.out]; omega) ?_
      · intro hpos
        first
          | (exfalso; omega)
          | exact ⟨rfl, pb, po + m, rfl, fun j hj => by rw [getD_drop', Nat.add_assoc]; exact hk1.cell (by exact HP.out (m + j) (by omega)) (by simpa using hpb)⟩
      intro w2 hb2 hk2
      have g2 := hk2.cell (by exact d2) (by simpa using hne)
      have k2 := (hk2.blk (by exact hk1.blk (by exact h.blk) (by simpa using hne)) (by simpa using hne))
      have e3 := k2.frozen 2
      have K2 := Lib.hid k2
      clear k2
      go_wp2_with fail
      refine mix_nil ?_
      go_wp2_with fail
      go_ret
      exact write_post h S.out hm1 hm2 M.out K2.out hb2 hk1 hk2 (by omega)
  · have he1 : p.length + q.length ≤ room := by omega
    have he2 : room ≤ p.length + q.length := by omega
    have he3 : p.length < pl := by omega
    clear he hmin
    go_enter Try.func13, Try.ntmps13
    have hnz : ((p.length : Int) == 0) = false := by rw [beq_eq_false_iff_ne]; omega
    go_wp2_with (go_at_call 24; refine (free_any h (p.length : Int) (by omega)).mono ?_; rintro e w' ⟨rfl, k1, rfl⟩)
    refine wp_region_mix [([0, 4, 5, 11, 1, 6, 2, 7, 3, 8, 9, 10], [12, 13], [])] (by kernel_rfl) (by kernel_rfl) ?_
    refine mix_cons' (by repeat (first | exact pick_end | apply (pick_step rfl))) (by repeat (first | exact pick_end | apply (pick_step rfl))) ?_
    repeat (go_big_quiet_step ((go_at_call 32; exact quiet_add (place_any (h.drewN _) q.length (by omega) s S.out))))
    refine wpQuiet_nil ?_
    intro nq
    refine wpList_copy_mem rfl (.tmp 26) (.tmp 27) 32 32 rfl 5 Try.underlying32 (by kernel_rfl) _ _ _ _ _ _ rfl rfl rb s row 5 (by exact h.rblk) (p.take m) m (by simp only [List.length_take]; omega) (by have := M.out; omega) ?_ (by rw [hl.out]; omega) ?_
    · intro _
      exact ⟨rfl, pb, po, rfl, fun j hj => by rw [getD_take' (by omega)]; exact HP.out j (by omega)⟩
    intro w1 hb1 hk1
    have d0 := hk1.cell (by exact c0) (by simpa using hne)
    have d2 := hk1.cell (by exact c2) (by simpa using hne)
    have e2 : w1.frozen? ⟨b, 2, none⟩ = false := (hk1.blk (by exact h.blk) (by simpa using hne)).frozen 2
    go_wp2_with fail
    refine mix_nil ?_
    go_wp2_with fail
    by_cases hpm : pc = m
    · exfalso; omega
    · refine wp_region_mix [([0, 4, 5, 1, 6, 2, 3], [7], [])] (by kernel_rfl) (by kernel_rfl) ?_
      refine mix_cons' (by repeat (first | exact pick_end | apply (pick_step rfl))) (by repeat (first | exact pick_end | apply (pick_step rfl))) ?_
      repeat (go_big_quiet_step (fail))
      refine wpQuiet_nil ?_
      intro nq
      refine wpList_copy_mem rfl (.tmp 32) (.tmp 35) 32 32 rfl 5 Try.underlying32 (by kernel_rfl) _ _ _ _ _ _ rfl rfl rb 0 _ 5 (by exact hb1) (p.drop m) (p.length - m) (by simp) (by omega) ?_ (by rw [length_splice' (by rw [hl.out]; simp; omega), hl.out]; omega) ?_
      · intro hpos
        first
          | (exfalso; omega)
          | exact ⟨rfl, pb, po + m, rfl, fun j hj => by rw [getD_drop', Nat.add_assoc]; exact hk1.cell (by exact HP.out (m + j) (by omega)) (by simpa using hpb)⟩
      intro w2 hb2 hk2
      have g2 := hk2.cell (by exact d2) (by simpa using hne)
      have k2 := (hk2.blk (by exact hk1.blk (by exact h.blk) (by simpa using hne)) (by simpa using hne))
      have e3 := k2.frozen 2
      have K2 := Lib.hid k2
      clear k2
      go_wp2_with fail
      refine mix_nil ?_
      go_wp2_with fail
      go_ret
      exact write_post h S.out hm1 hm2 M.out K2.out hb2 hk1 hk2 (by omega)

set_option maxHeartbeats 800000 in
theorem write_none (h : RingRaw w b rb room q row at_) (p : Option Addr) (pl pc : Nat) (hpc : pl ≤ pc) (hpl : pl ≤ maxLen) (hz : pl = 0 ∨ room = q.length) :
    Calls Try.prog 13 #[.pointer (some ⟨b, 0, none⟩), .slice p pl pc] w fun e w' => e = .returned (.int .i64 0) ∧ ∃ m, w' = w.drewN m := by
  unfold maxLen at hpl
  have h1 := h.big
  rcases hz with hz | hz
  · subst hz
    go_enter Try.func13, Try.ntmps13
    have hfr : (0 : Int) ≤ ((room - q.length : Nat) : Int) := by omega
    go_wp2_with (go_at_call 24; refine (free_any h ((room - q.length : Nat) : Int) (by have := h.fits; omega)).mono ?_; rintro e w' ⟨rfl, k1, rfl⟩)
    go_ret
    exact ⟨rfl, _, rfl⟩
  · go_enter Try.func13, Try.ntmps13
    go_wp2_with (go_at_call 24; refine (free_any h 0 (by omega)).mono ?_; rintro e w' ⟨rfl, k1, rfl⟩)
    all_goals go_ret
    all_goals exact ⟨rfl, _, rfl⟩

/-- Write: as many as fit -/
theorem write_any (h : RingRaw w b rb room q row at_) (v : Value) (p : List UInt8) (hv : Byt w v p) (hne : p = [] ∨ v.ownBlock ≠ some rb) :
    Calls Try.prog 13 #[.pointer (some ⟨b, 0, none⟩), v] w fun e w' => e = .returned (.int .i64 (min p.length (room - q.length) : Nat)) ∧
      (RingAt w' b rb room (q ++ p.take (min p.length (room - q.length)))) ∧ Kp [b, rb] w w' := by
  obtain ⟨pp, pc, rfl, hm, hp⟩ := hv.cases
  have hpc : p.length ≤ pc := by
    rcases hv with ⟨_, _, _, _, _, h2⟩ | ⟨b', off, cap, h1, h2, h3, _⟩
    · subst h2; simp
    · simp at h1; omega
  have hfit := h.fits
  by_cases hz : p.length = 0 ∨ room = q.length
  · refine (write_none h pp p.length pc hpc hm hz).mono ?_
    rintro e w' ⟨rfl, n, rfl⟩
    have e0 : min p.length (room - q.length) = 0 := by omega
    rw [e0]
    refine ⟨rfl, ⟨row, at_, ?_⟩, (Kp.refl _ _).drewN n⟩
    simpa using h.drewN n
  · have hl0 : 0 < p.length := by omega
    obtain ⟨pb, po, rfl, hc⟩ := hp.resolve_left (by rintro rfl; simp at hl0)
    have hmin : (p.take (min p.length (room - q.length))).length = min p.length (room - q.length) := by simp
    replace hne := hne.resolve_left (by rintro rfl; simp at hl0)
    have := write_fit h (p.take (min p.length (room - q.length))) pb po pc p.length (by omega) (fun i hi => by rw [hmin] at hi; rw [getD_take' hi]; exact hc i (by omega)) (by simpa [Value.ownBlock] using hne) hpc hm (by rw [hmin]; omega) (by rw [hmin]; omega)
    rw [hmin] at this
    exact this

/-- what Peek hands out -/
def peekTo (q : List UInt8) (at_ n : Int) : List UInt8 := if at_ < 0 ∨ n < 0 then [] else (q.drop at_.toNat).take n.toNat

set_option maxHeartbeats 800000 in
theorem peek_none (h : RingRaw w b rb room q row at_) (k n : Int) (hz : k < 0 ∨ (0 ≤ k ∧ n < 0) ∨ (0 ≤ k ∧ 0 ≤ n ∧ q.length ≤ k)) :
    Calls Try.prog 17 #[.pointer (some ⟨b, 0, none⟩), .int .i64 k, .int .i64 n] w fun e w' => e = .returned (.slice none 0 0) ∧ ∃ m, w' = w.drewN m := by
  rcases hz with hz | ⟨hk, hz⟩ | ⟨hk, hn, hz⟩
  all_goals
    go_enter Try.func17, Try.ntmps17
    go_wp2_with (go_at_call 22; refine (len_any h).mono ?_; rintro e w' ⟨rfl, k1, rfl⟩)
    go_ret
    first | exact ⟨rfl, 0, rfl⟩ | exact ⟨rfl, _, rfl⟩


theorem peek_post (h : RingRaw w b rb room q row at_) {k n m s k1 n1 n2 kv : Nat} {w1 w2 w3 : World} (hs : (at_ + k) % room = s) (hk : k < q.length) (hkv : kv = min m (room - s)) (hm : m = min n (q.length - k))
    (hb3 : Blk w3 w.heap.size ((splice (splice (List.replicate m (0 : UInt8)) 0 ((row.drop s).take kv)) kv (row.take (m - kv))).map bv) 5)
    (hk1 : Kp [] (w.drewN k1) w1) (hk2 : Kp [w.heap.size] (w1.drewN n1) w2) (hk3 : Kp [w.heap.size] (w2.drewN n2) w3) :
    ∃ v, Ending.returned (.slice (some ⟨w.heap.size, 0, none⟩) m m) = .returned v ∧ w3.ownsRow w.heap.size 5 1 v ((q.drop k).take n).length (((q.drop k).take n).map bv) ∧ Kp [] w w3 := by
  subst hkv
  have hl := h.len
  have hf := h.fits
  have e1 := holds_read (n := m) (by rw [hl]; exact h.lt) (by rw [hl]; exact h.fits) h.holds (k := k) (by omega) hk
  rw [hl, hs] at e1
  have hs2 : s < room := by rw [← hs]; exact Nat.mod_lt _ (by have := h.lt; omega)
  rw [splice_fill (by simp; omega) (by simp; omega) (by omega)] at hb3
  have e2 : (row.drop s).take (min m (room - s)) ++ row.take (m - min m (room - s)) = (q.drop k).take n := by
    have a1 : (row.drop s).take (min m (room - s)) = (row.drop s).take m := by
      rw [← hl, ← List.length_drop, ← List.take_eq_take_min]
    have a2 : m - min m (room - s) = m - (room - s) := by omega
    have a3 : (q.drop k).take m = (q.drop k).take n := by
      rw [hm]; rw [← List.length_drop]; exact (List.take_eq_take_min ..).symm
    rw [a1, a2, e1, a3]
  rw [e2] at hb3
  have e3 : ((q.drop k).take n).length = m := by simp; omega
  have hown := own_of_blk (base := w.heap.size) hb3 (Nat.le_refl _) (by rw [e3]; have := h.big; unfold maxLen; omega)
  rw [e3] at hown
  refine ⟨_, rfl, by rw [e3]; exact hown, ?_⟩
  have b1 : Kp [] w w1 := ((Kp.refl [] w).drewN k1).trans hk1
  have b2 : Kp [] w w2 := (b1.drewN n1).trans' hk2 (by simp) (by simp)
  exact (b2.drewN n2).trans' hk3 (by simp) (by simp)

set_option maxHeartbeats 1600000 in
theorem peek_some (h : RingRaw w b rb room q row at_) (k n : Nat) (hk : k < q.length) :
    Calls Try.prog 17 #[.pointer (some ⟨b, 0, none⟩), .int .i64 k, .int .i64 n] w fun e w' => ∃ v, e = .returned v ∧ w'.ownsRow w.heap.size 5 1 v ((q.drop k).take n).length (((q.drop k).take n).map bv) ∧ Kp [] w w' := by
  have c0 := h.blk.cell (off := 0) rfl
  have c2 := h.blk.cell (off := 2) rfl
  have h1 := h.big
  have h2 := h.lt
  have h3 := h.fits
  have hne := h.ne
  obtain ⟨s, hs⟩ : ∃ s, (at_ + k) % room = s := ⟨_, rfl⟩
  have hs2 := Nat.mod_lt (at_ + k) (show 0 < room by omega)
  rw [hs] at hs2
  have S := Lib.hid hs
  clear hs
  rcases Nat.lt_or_ge (q.length - k) n with hmin | hmin
  · obtain ⟨kv, hkv⟩ : ∃ kv, kv = min (q.length - k) (room - s) := ⟨_, rfl⟩
    have hkv1 : kv ≤ (q.length - k) := by omega
    have hkv2 : kv ≤ room - s := by omega
    have KV := Lib.hid hkv
    clear hkv
    go_enter Try.func17, Try.ntmps17
    go_wp2_with (first | (go_at_call 22; refine (len_any h).mono ?_; rintro e w' ⟨rfl, k1, rfl⟩) | (at_make; go_must (refine wpList_make_bytes rfl (.tmp 28) (.tmp 28) 32 rfl 5 Try.underlying32 infoU8 _ _ (q.length - k) rfl rfl ?_ ?_ ?_ ?_; omega; omega; omega; intro w1 hb1 hk1 hz1)))
    have hr1 := (h.drewN k1).kp hk1 (by simp) (by simp)
    have hbs : ¬ b = w.heap.size := by have := h.blk.lt; omega
    have hrs : ¬ rb = w.heap.size := by have := h.rblk.lt; omega
    have d0 := hr1.blk.cell (off := 0) rfl
    refine wp_region_mix [([0, 1, 5, 6, 2, 7, 3, 4, 8], [9, 10], [])] (by kernel_rfl) (by kernel_rfl) ?_
    refine mix_cons' (by repeat (first | exact pick_end | apply (pick_step rfl))) (by repeat (first | exact pick_end | apply (pick_step rfl))) ?_
    repeat (go_big_quiet_step ((go_at_call 32; exact Calls.quiet_of (place_any (hr1.drewN _) k (by omega) s S.out))))
    refine wpQuiet_nil ?_
    intro nq
    refine wpList_copy_mem rfl (.tmp 30) (.tmp 38) 32 32 rfl 5 Try.underlying32 (by kernel_rfl) _ _ _ _ _ _ rfl rfl w.heap.size 0 (List.replicate (q.length - k) (0 : UInt8)) 5 (by exact hb1) ((row.drop s).take kv) kv (by have := h.len; simp; omega) (by have := KV.out; omega) ?_ (by simp; omega) ?_
    · intro _
      exact ⟨rfl, rb, s, rfl, fun j hj => by rw [getD_take' hj, getD_drop']; exact (hr1.rblk.cell (getElem_of_bv (by have := hr1.len; omega)))⟩
    intro w2 hb2 hk2
    have e0 := hk2.cell (by exact d0) (by simpa using hbs)
    go_wp2_with fail
    refine mix_nil ?_
    go_wp2_with fail
    rcases Nat.lt_or_ge kv (q.length - k) with hkm | hkm
    · refine wp_region_mix [([0, 1, 3, 2, 4, 5, 6], [7], [])] (by kernel_rfl) (by kernel_rfl) ?_
      refine mix_cons' (by repeat (first | exact pick_end | apply (pick_step rfl))) (by repeat (first | exact pick_end | apply (pick_step rfl))) ?_
      repeat (go_big_quiet_step (fail))
      refine wpQuiet_nil ?_
      intro nq
      refine wpList_copy_mem rfl (.tmp 42) (.tmp 46) 32 32 rfl 5 Try.underlying32 (by kernel_rfl) _ _ _ _ _ _ rfl rfl w.heap.size kv _ 5 (by exact hb2) (row.take ((q.length - k) - kv)) ((q.length - k) - kv) (by have := h.len; simp; omega) (by have := h.big; omega) ?_ (by have := h.len; rw [length_splice' (by simp; omega)]; simp; omega) ?_
      · intro hpos
        first
          | (exfalso; omega)
          | exact ⟨rfl, rb, 0, rfl, fun j hj => by rw [getD_take' hj]; exact ((hr1.kp (by exact (Kp.refl [] w1).drewN _) (by simp) (by simp)).kp hk2 (by simp; exact hbs) (by simp; exact hrs)).rblk.cell (by rw [Nat.zero_add]; exact getElem_of_bv (by have := hr1.len; omega))⟩
      intro w3 hb3 hk3
      go_wp2_with fail
      refine mix_nil ?_
      go_wp2_with fail
      go_ret
      exact peek_post h S.out hk (m := (q.length - k)) KV.out (by omega) hb3 hk1 hk2 hk3
    · refine wp_region_mix [([0, 1, 3, 2, 4, 5, 6], [7], [])] (by kernel_rfl) (by kernel_rfl) ?_
      refine mix_cons' (by repeat (first | exact pick_end | apply (pick_step rfl))) (by repeat (first | exact pick_end | apply (pick_step rfl))) ?_
      repeat (go_big_quiet_step (fail))
      refine wpQuiet_nil ?_
      intro nq
      refine wpList_copy_mem rfl (.tmp 42) (.tmp 46) 32 32 rfl 5 Try.underlying32 (by kernel_rfl) _ _ _ _ _ _ rfl rfl w.heap.size kv _ 5 (by exact hb2) (row.take ((q.length - k) - kv)) ((q.length - k) - kv) (by have := h.len; simp; omega) (by have := h.big; omega) ?_ (by have := h.len; rw [length_splice' (by simp; omega)]; simp; omega) ?_
      · intro hpos
        first
          | (exfalso; omega)
          | exact ⟨rfl, rb, 0, rfl, fun j hj => by rw [getD_take' hj]; exact ((hr1.kp (by exact (Kp.refl [] w1).drewN _) (by simp) (by simp)).kp hk2 (by simp; exact hbs) (by simp; exact hrs)).rblk.cell (by rw [Nat.zero_add]; exact getElem_of_bv (by have := hr1.len; omega))⟩
      intro w3 hb3 hk3
      go_wp2_with fail
      refine mix_nil ?_
      go_wp2_with fail
      go_ret
      exact peek_post h S.out hk (m := (q.length - k)) KV.out (by omega) hb3 hk1 hk2 hk3
  · obtain ⟨kv, hkv⟩ : ∃ kv, kv = min n (room - s) := ⟨_, rfl⟩
    have hkv1 : kv ≤ n := by omega
    have hkv2 : kv ≤ room - s := by omega
    have KV := Lib.hid hkv
    clear hkv
    go_enter Try.func17, Try.ntmps17
    go_wp2_with (first | (go_at_call 22; refine (len_any h).mono ?_; rintro e w' ⟨rfl, k1, rfl⟩) | (at_make; go_must (refine wpList_make_bytes rfl (.tmp 28) (.tmp 28) 32 rfl 5 Try.underlying32 infoU8 _ _ n rfl rfl ?_ ?_ ?_ ?_; omega; omega; omega; intro w1 hb1 hk1 hz1)))
    have hr1 := (h.drewN k1).kp hk1 (by simp) (by simp)
    have hbs : ¬ b = w.heap.size := by have := h.blk.lt; omega
    have hrs : ¬ rb = w.heap.size := by have := h.rblk.lt; omega
    have d0 := hr1.blk.cell (off := 0) rfl
    refine wp_region_mix [([0, 1, 5, 6, 2, 7, 3, 4, 8], [9, 10], [])] (by kernel_rfl) (by kernel_rfl) ?_
    refine mix_cons' (by repeat (first | exact pick_end | apply (pick_step rfl))) (by repeat (first | exact pick_end | apply (pick_step rfl))) ?_
    repeat (go_big_quiet_step ((go_at_call 32; exact Calls.quiet_of (place_any (hr1.drewN _) k (by omega) s S.out))))
    refine wpQuiet_nil ?_
    intro nq
    refine wpList_copy_mem rfl (.tmp 30) (.tmp 38) 32 32 rfl 5 Try.underlying32 (by kernel_rfl) _ _ _ _ _ _ rfl rfl w.heap.size 0 (List.replicate n (0 : UInt8)) 5 (by exact hb1) ((row.drop s).take kv) kv (by have := h.len; simp; omega) (by have := KV.out; omega) ?_ (by simp; omega) ?_
    · intro _
      exact ⟨rfl, rb, s, rfl, fun j hj => by rw [getD_take' hj, getD_drop']; exact (hr1.rblk.cell (getElem_of_bv (by have := hr1.len; omega)))⟩
    intro w2 hb2 hk2
    have e0 := hk2.cell (by exact d0) (by simpa using hbs)
    go_wp2_with fail
    refine mix_nil ?_
    go_wp2_with fail
    rcases Nat.lt_or_ge kv n with hkm | hkm
    · refine wp_region_mix [([0, 1, 3, 2, 4, 5, 6], [7], [])] (by kernel_rfl) (by kernel_rfl) ?_
      refine mix_cons' (by repeat (first | exact pick_end | apply (pick_step rfl))) (by repeat (first | exact pick_end | apply (pick_step rfl))) ?_
      repeat (go_big_quiet_step (fail))
      refine wpQuiet_nil ?_
      intro nq
      refine wpList_copy_mem rfl (.tmp 42) (.tmp 46) 32 32 rfl 5 Try.underlying32 (by kernel_rfl) _ _ _ _ _ _ rfl rfl w.heap.size kv _ 5 (by exact hb2) (row.take (n - kv)) (n - kv) (by have := h.len; simp; omega) (by have := h.big; omega) ?_ (by have := h.len; rw [length_splice' (by simp; omega)]; simp; omega) ?_
      · intro hpos
        first
          | (exfalso; omega)
          | exact ⟨rfl, rb, 0, rfl, fun j hj => by rw [getD_take' hj]; exact ((hr1.kp (by exact (Kp.refl [] w1).drewN _) (by simp) (by simp)).kp hk2 (by simp; exact hbs) (by simp; exact hrs)).rblk.cell (by rw [Nat.zero_add]; exact getElem_of_bv (by have := hr1.len; omega))⟩
      intro w3 hb3 hk3
      go_wp2_with fail
      refine mix_nil ?_
      go_wp2_with fail
      go_ret
      exact peek_post h S.out hk (m := n) KV.out (by omega) hb3 hk1 hk2 hk3
    · refine wp_region_mix [([0, 1, 3, 2, 4, 5, 6], [7], [])] (by kernel_rfl) (by kernel_rfl) ?_
      refine mix_cons' (by repeat (first | exact pick_end | apply (pick_step rfl))) (by repeat (first | exact pick_end | apply (pick_step rfl))) ?_
      repeat (go_big_quiet_step (fail))
      refine wpQuiet_nil ?_
      intro nq
      refine wpList_copy_mem rfl (.tmp 42) (.tmp 46) 32 32 rfl 5 Try.underlying32 (by kernel_rfl) _ _ _ _ _ _ rfl rfl w.heap.size kv _ 5 (by exact hb2) (row.take (n - kv)) (n - kv) (by have := h.len; simp; omega) (by have := h.big; omega) ?_ (by have := h.len; rw [length_splice' (by simp; omega)]; simp; omega) ?_
      · intro hpos
        first
          | (exfalso; omega)
          | exact ⟨rfl, rb, 0, rfl, fun j hj => by rw [getD_take' hj]; exact ((hr1.kp (by exact (Kp.refl [] w1).drewN _) (by simp) (by simp)).kp hk2 (by simp; exact hbs) (by simp; exact hrs)).rblk.cell (by rw [Nat.zero_add]; exact getElem_of_bv (by have := hr1.len; omega))⟩
      intro w3 hb3 hk3
      go_wp2_with fail
      refine mix_nil ?_
      go_wp2_with fail
      go_ret
      exact peek_post h S.out hk (m := n) KV.out (by omega) hb3 hk1 hk2 hk3

/-- Peek: a slice of its own -/
theorem peek_any (h : RingRaw w b rb room q row at_) (k n : Int) :
    Calls Try.prog 17 #[.pointer (some ⟨b, 0, none⟩), .int .i64 k, .int .i64 n] w fun e w' => ∃ v, e = .returned v ∧ w'.ownsRow w.heap.size 5 1 v (peekTo q k n).length ((peekTo q k n).map bv) ∧ Kp [] w w' := by
  by_cases hz : k < 0 ∨ (0 ≤ k ∧ n < 0) ∨ (0 ≤ k ∧ 0 ≤ n ∧ q.length ≤ k)
  · refine (peek_none h k n hz).mono ?_
    rintro e w' ⟨rfl, m, rfl⟩
    have e0 : peekTo q k n = [] := by
      unfold peekTo
      split
      · rfl
      · rw [List.drop_of_length_le (by omega), List.take_nil]
    rw [e0]
    exact ⟨_, rfl, World.ownsRow_nil _ _ _ _, (Kp.refl _ _).drewN m⟩
  · obtain ⟨k', rfl⟩ := Int.eq_ofNat_of_zero_le (show 0 ≤ k by omega)
    obtain ⟨n', rfl⟩ := Int.eq_ofNat_of_zero_le (show 0 ≤ n by omega)
    have e0 : peekTo q (k' : Int) (n' : Int) = (q.drop k').take n' := by
      unfold peekTo
      rw [if_neg (by omega)]; rfl
    rw [e0]
    exact peek_some h k' n' (by omega)

theorem drop_post (h : RingRaw w b rb room q row at_) {m s k : Nat} {x : Int} (hs : (at_ + m) % room = s) (hm : m ≤ q.length) (hx : x = (q.length : Int) - m) :
    RingAt (((w.drewN k).setCell ⟨b, 1, none⟩ (.int .i64 s)).setCell ⟨b, 2, none⟩ (.int .i64 x)) b rb room (q.drop m) ∧ Kp [b] w (((w.drewN k).setCell ⟨b, 1, none⟩ (.int .i64 s)).setCell ⟨b, 2, none⟩ (.int .i64 x)) := by
  subst hx
  have hl := h.len
  refine ⟨⟨row, s, hl, h.big, ?_, ?_, h.ne, ?_, ((h.rblk.drewN k).other h.ne _).other h.ne _, ?_⟩, (((Kp.refl _ _).drewN k).setCell (.inl (by simp)) _).setCell (.inl (by simp)) _⟩
  · rw [← hs]; exact Nat.mod_lt _ (by have := h.lt; omega)
  · simp; have := h.fits; omega
  · have := ((h.blk.drewN k).set 1 (.int .i64 s)).set 2 (.int .i64 ((q.length : Int) - m))
    have e : ((q.length : Int) - m) = ((q.length - m : Nat) : Int) := by omega
    simpa [e] using this
  · have := holds_drop (k := m) (by rw [hl]; exact h.lt) (by rw [hl]; exact h.fits) h.holds hm
    rw [hl, hs] at this
    exact this

set_option maxHeartbeats 800000 in
/-- Drop: the first ones go -/
theorem drop_any (h : RingRaw w b rb room q row at_) (n : Int) :
    Calls Try.prog 20 #[.pointer (some ⟨b, 0, none⟩), .int .i64 n] w fun e w' => e = .returned (.int .i64 (min n.toNat q.length : Nat)) ∧ RingAt w' b rb room (q.drop (min n.toNat q.length)) ∧ Kp [b] w w' := by
  have c1 := h.blk.cell (off := 1) rfl
  have c2 := h.blk.cell (off := 2) rfl
  have f1 := h.blk.frozen 1
  have f2 := h.blk.frozen 2
  have h1 := h.big
  have h2 := h.fits
  have h3 := h.lt
  by_cases hz : n ≤ 0 ∨ q.length = 0
  · have e0 : min n.toNat q.length = 0 := by omega
    rw [e0, List.drop_zero]
    have H := Lib.hid h
    clear h e0
    rcases hz with hz | hz
    · go_enter Try.func20, Try.ntmps20
      go_wp2_with (go_at_call 22; refine (len_any H.out).mono ?_; rintro e w' ⟨rfl, k1, rfl⟩)
      all_goals go_ret
      all_goals exact ⟨by first | rfl | (congr 2; omega), ⟨row, at_, H.out.drewN _⟩, (Kp.refl _ _).drewN _⟩
    · have hz' : q.length ≤ 0 := by omega
      clear hz
      go_enter Try.func20, Try.ntmps20
      go_wp2_with (go_at_call 22; refine (len_any H.out).mono ?_; rintro e w' ⟨rfl, k1, rfl⟩)
      all_goals go_ret
      all_goals exact ⟨rfl, ⟨row, at_, H.out.drewN _⟩, (Kp.refl _ _).drewN _⟩
  · obtain ⟨m, hm⟩ : ∃ m, min n.toNat q.length = m := ⟨_, rfl⟩
    rw [hm]
    have hm1 : m ≤ q.length := by omega
    have hm2 : 0 < m := by omega
    obtain ⟨s, hs⟩ : ∃ s, (at_ + m) % room = s := ⟨_, rfl⟩
    have S := Lib.hid hs
    clear hs
    by_cases hlt : (q.length : Int) < n
    · obtain rfl : m = q.length := by omega
      clear hm
      go_enter Try.func20, Try.ntmps20
      go_wp2_with (first | (go_at_call 22; refine (len_any h).mono ?_; rintro e w' ⟨rfl, k1, rfl⟩) | (go_at_call 32; refine (place_any (h.drewN _) q.length (by omega) s S.out).mono ?_; rintro e w' ⟨rfl, k2, rfl⟩))
      go_ret
      exact ⟨rfl, drop_post h S.out (Nat.le_refl _) (by omega)⟩
    · obtain rfl : n = m := by omega
      clear hm
      go_enter Try.func20, Try.ntmps20
      go_wp2_with (first | (go_at_call 22; refine (len_any h).mono ?_; rintro e w' ⟨rfl, k1, rfl⟩) | (go_at_call 32; refine (place_any (h.drewN _) m (by omega) s S.out).mono ?_; rintro e w' ⟨rfl, k2, rfl⟩))
      go_ret
      exact ⟨rfl, drop_post h S.out hm1 rfl⟩

/-- what New gives -/
def NewRing (w : World) (room : Int) (e : Ending) (w' : World) : Prop := Kp [] w w' ∧
      ((¬ (1 ≤ room ∧ room ≤ 1048560) ∧ e = .returned (.tuple #[.pointer none, .int .i64 1])) ∨
       ((1 ≤ room ∧ room ≤ 1048560) ∧ e = .returned (.tuple #[.pointer (some ⟨w.heap.size + 1, 0, none⟩), .int .i64 0]) ∧ RingAt w' (w.heap.size + 1) w.heap.size room.toNat [] ∧ w'.heap.size = w.heap.size + 2))

set_option maxHeartbeats 400000 in
/-- New: a ring of nothing, or none -/
theorem new_any (room : Int) (w : World) :
    Calls Try.prog 10 #[.int .i64 room] w (NewRing w room) := by
  by_cases hz : 1 ≤ room ∧ room ≤ 1048560
  · obtain ⟨r, rfl⟩ := Int.eq_ofNat_of_zero_le (show 0 ≤ room by omega)
    obtain ⟨h1, h2⟩ := hz
    go_enter Try.func10, Try.ntmps10
    go_wp2_with (at_make; go_must (refine wpList_make_bytes rfl (.tmp 10) (.tmp 10) 32 rfl 5 Try.underlying32 infoU8 _ _ r rfl rfl ?_ ?_ ?_ ?_; omega; omega; omega; intro w1 hb1 hk1 hz1))
    go_ret2
    have hn := Blk.new w1 [.slice (some ⟨w.heap.size, 0, none⟩) r r, .int .i64 0, .int .i64 0] 56
    rw [hz1] at hn
    refine ⟨hk1.alloc _, .inr ⟨⟨h1, h2⟩, rfl, ⟨List.replicate r 0, 0, by simp, by omega, by omega, by simp, by omega, by simpa using hn, by simpa using hb1.alloc _, holds_nil _ _⟩, by simp [hz1]⟩⟩
  · by_cases h1 : room < 1
    · go_enter Try.func10, Try.ntmps10
      go_wp2
      go_ret2
      exact ⟨Kp.refl _ _, .inl ⟨hz, rfl⟩⟩
    · have h2 : 1048560 < room := by omega
      have h1' : 1 ≤ room := by omega
      go_enter Try.func10, Try.ntmps10
      go_wp2
      go_ret2
      exact ⟨Kp.refl _ _, .inl ⟨hz, rfl⟩⟩
end
end Go.Proofs.Ytodedpmedkgkmaa

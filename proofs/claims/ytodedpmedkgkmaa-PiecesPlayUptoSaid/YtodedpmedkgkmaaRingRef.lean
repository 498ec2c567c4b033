/-
  wharfref13.Ring: what each method does to a ring that holds q, in a room.
-/
import Derived.Test.YtodedpmedkgkmaaHelp
set_option linter.unusedVariables false
set_option linter.unusedSimpArgs false
namespace Go.Proofs.Ytodedpmedkgkmaa
open Go.RowKit

/-- the document's Ring whose block is b holds q (as the slice value v reads) in its room -/
structure RefRing (w : World) (b : Nat) (v : Value) (room : Nat) (q : List UInt8) : Prop where
  big : room ≤ 1048560
  fits : q.length ≤ room
  blk : Blk w b [.int .i64 room, v] 43
  byt : Byt w v q
  ne : b ∉ ob v
  lt : ∀ i, i ∈ ob v → i < w.heap.size

section
variable {w : World} {b room : Nat} {v : Value} {q : List UInt8}

theorem RefRing.drewN (h : RefRing w b v room q) (n : Nat) : RefRing (w.drewN n) b v room q := ⟨h.big, h.fits, h.blk, h.byt, h.ne, h.lt⟩
theorem RefRing.kp {w' : World} {L : List Nat} (h : RefRing w b v room q) (k : Kp L w w') (h1 : b ∉ L) (h2 : ∀ i, i ∈ ob v → i ∉ L) : RefRing w' b v room q :=
  ⟨h.big, h.fits, k.blk h.blk h1, h.byt.kp k h2, h.ne, fun i hi => Nat.lt_of_lt_of_le (h.lt i hi) k.size⟩

set_option maxHeartbeats 800000 in
theorem rlen_any (h : RefRing w b v room q) :
    Calls Try.prog 23 #[.pointer (some ⟨b, 0, none⟩)] w fun e w' => e = .returned (.int .i64 q.length) ∧ ∃ m, w' = w.drewN m := by
  have c1 := h.blk.cell (off := 1) rfl
  obtain ⟨p, c, rfl⟩ := h.byt.shape
  go_enter Try.func23, Try.ntmps23
  go_wp2
  go_ret
  exact ⟨rfl, 0, rfl⟩

set_option maxHeartbeats 800000 in
theorem rfree_any (h : RefRing w b v room q) :
    Calls Try.prog 25 #[.pointer (some ⟨b, 0, none⟩)] w fun e w' => e = .returned (.int .i64 (room - q.length : Int)) ∧ ∃ m, w' = w.drewN m := by
  have c0 := h.blk.cell (off := 0) rfl
  have c1 := h.blk.cell (off := 1) rfl
  have h1 := h.big
  have h2 := h.fits
  obtain ⟨p, c, rfl⟩ := h.byt.shape
  go_enter Try.func25, Try.ntmps25
  go_wp2
  go_quiet (fail)
  go_wp2
  go_ret
  exact ⟨rfl, _, rfl⟩

/-- what New gives -/
def NewRef (w : World) (room : Int) (e : Ending) (w' : World) : Prop := Kp [] w w' ∧
      ((¬ (1 ≤ room ∧ room ≤ 1048560) ∧ e = .returned (.tuple #[.pointer none, .int .i64 1])) ∨
       ((1 ≤ room ∧ room ≤ 1048560) ∧ e = .returned (.tuple #[.pointer (some ⟨w.heap.size, 0, none⟩), .int .i64 0]) ∧ RefRing w' w.heap.size (.slice none 0 0) room.toNat [] ∧ w'.heap.size = w.heap.size + 1))

set_option maxHeartbeats 400000 in
theorem rnew_any (room : Int) (w : World) : Calls Try.prog 11 #[.int .i64 room] w (NewRef w room) := by
  by_cases hz : 1 ≤ room ∧ room ≤ 1048560
  · obtain ⟨r, rfl⟩ := Int.eq_ofNat_of_zero_le (show 0 ≤ room by omega)
    obtain ⟨h1, h2⟩ := hz
    go_enter Try.func11, Try.ntmps11
    go_wp2
    go_ret2
    exact ⟨(Kp.refl _ _).alloc _, .inr ⟨⟨h1, h2⟩, rfl, ⟨by omega, by simp, Blk.new _ [.int .i64 r, .slice none 0 0] _, .inl ⟨none, 0, rfl, fun _ => rfl, Nat.zero_le _, rfl⟩, by simp [ob, Value.ownBlock], by simp [ob, Value.ownBlock]⟩, by simp⟩⟩
  · by_cases h1 : room < 1
    · go_enter Try.func11, Try.ntmps11
      go_wp2
      go_ret2
      exact ⟨Kp.refl _ _, .inl ⟨hz, rfl⟩⟩
    · have h2 : 1048560 < room := by omega
      have h1' : 1 ≤ room := by omega
      go_enter Try.func11, Try.ntmps11
      go_wp2
      go_ret2
      exact ⟨Kp.refl _ _, .inl ⟨hz, rfl⟩⟩

/-- what Write gives -/
def RefWrote (w : World) (b room : Nat) (v : Value) (q p : List UInt8) (e : Ending) (w' : World) : Prop := e = .returned (.int .i64 (min p.length (room - q.length) : Nat)) ∧
  (∃ v', RefRing w' b v' room (q ++ p.take (min p.length (room - q.length))) ∧ ∀ i, i ∈ ob v' → w.heap.size ≤ i) ∧ Kp [b] w w'

theorem rwrite_post (h : RefRing w b v room q) {p : List UInt8} {m : Nat} (hm : m = min p.length (room - q.length)) {p2 : Option Addr} {c3 N N0 : Nat} {x : Int} {w2 : World} (hown2 : OwnB w2 w.heap.size 5 (.slice p2 N0 c3) (q ++ p.take m)) (k2 : Kp [] w w2) (hN : N = N0) (hx : x = m) :
    RefWrote w b room v q p (.returned (.int .i64 x)) (w2.setCell ⟨b, 1, none⟩ (.slice p2 N c3)) := by
  subst hm
  subst hN
  subst hx
  have hb := k2.blk h.blk (by simp)
  have hlt := h.blk.lt
  have hne : ∀ i, i ∈ ob (.slice p2 N c3) → w.heap.size ≤ i ∧ i < w2.heap.size := hown2.lt
  refine ⟨rfl, ⟨.slice p2 N c3, ⟨h.big, by simp; have := h.fits; omega, ?_, ?_, ?_, ?_⟩, fun i hi => (hne i hi).1⟩, (k2.mono (by simp)).setCell (.inl (by simp)) _⟩
  · have := hb.set 1 (.slice p2 N c3)
    simpa using this
  · refine hown2.byt.kp (L := [b]) ((Kp.refl _ _).setCell (.inl (by simp)) _) (fun i hi => ?_)
    have := (hne i hi).1
    simp; omega
  · intro hbm
    have := (hne b hbm).1
    omega
  · intro i hi
    have := (hne i hi).2
    simpa [World.setCell] using this

set_option maxHeartbeats 1600000 in
theorem rwrite_any (h : RefRing w b v room q) (sv : Value) (p : List UInt8) (hs : Byt w sv p) :
    Calls Try.prog 14 #[.pointer (some ⟨b, 0, none⟩), sv] w (RefWrote w b room v q p) := by
  have c0 := h.blk.cell (off := 0) rfl
  have c1 := h.blk.cell (off := 1) rfl
  have f1 := h.blk.frozen 1
  have h1 := h.big
  have h2 := h.fits
  obtain ⟨vp, vc, rfl⟩ := h.byt.shape
  obtain ⟨p0, pc, rfl⟩ := hs.shape
  have hcap := hs.len
  have hm63 := hcap.2.2
  unfold maxLen at hm63
  have hcap2 := hcap.2.1
  clear hcap
  have HS := Lib.hid hs
  have HB := Lib.hid (show ∀ w1, Kp [] w w1 → Byt w1 (.slice vp q.length vc) q from fun w1 k => h.byt.kp k (by simp))
  have hlt := h.blk.lt
  have cA : ∀ n o, ((w.drewN n).alloc o).cell? ⟨b, 1, none⟩ = some (.slice vp q.length vc) := fun n o => ((h.blk.drewN n).alloc o).cell rfl
  clear hs
  obtain ⟨m, hm⟩ : ∃ m, m = min p.length (room - q.length) := ⟨_, rfl⟩
  have M := Lib.hid hm
  rcases Nat.lt_or_ge (room - q.length) p.length with hmin | hmin
  · obtain rfl : m = room - q.length := by omega
    clear hm
    go_enter Try.func14, Try.ntmps14
    go_wp2
    refine wp_region_mix [([0, 2, 6, 1, 3, 7, 4, 8, 5, 9, 10, 11, 12, 13], [], [])] (by kernel_rfl) (by kernel_rfl) ?_
    refine mix_cons' (by repeat (first | exact pick_end | apply (pick_step rfl))) (by repeat (first | exact pick_end | apply (pick_step rfl))) ?_
    repeat (go_big_quiet_step (fail))
    refine wpQuiet_nil ?_
    intro nq
    go_wp2_with fail
    refine mix_nil ?_
    go_wp2_with fail
    refine wp_region_mix [([0, 2, 7, 8, 3, 9, 4, 5], [1], [3, 4, 5, 9]), ([], [6], [9]), ([], [10, 11, 12, 13], [])] (by kernel_rfl) (by kernel_rfl) ?_
    refine mix_cons (by repeat (first | exact pick_end | apply (pick_step rfl))) (by repeat (first | exact pick_end | apply (pick_step rfl))) (by repeat (first | exact pick_end | apply (pick_step rfl))) ?_
    repeat (go_big_quiet_step (fail))
    refine wpQuiet_nil ?_
    intro nq
    go_wp2_with fail
    try simp only [Act.put, List.setIfInBounds_toArray, List.set_cons_zero, List.set_cons_succ]
    refine ⟨?_, ?_⟩
    · unfold AgainAll; repeat (go_big_quiet_step (fail))
      exact again_end
    refine mix_cons (by repeat (first | exact pick_end | apply (pick_step rfl))) (by repeat (first | exact pick_end | apply (pick_step rfl))) (by repeat (first | exact pick_end | apply (pick_step rfl))) ?_
    refine wpQuiet_nil ?_
    intro nq
    refine wpList_append_bytes rfl (.tmp 20) (.tmp 24) 32 rfl 5 Try.underlying32 infoU8 w.heap.size [] q q q.length rfl rfl (own_new (w.drewN _) _ _ (Nat.le_refl _)) (HB.out _ (by repeat (first | exact Kp.refl _ _ | assumption | apply Kp.drewN | apply Kp.alloc))) rfl ?_ ?_ ?_ ?_
    · omega
    · omega
    · simp
    intro p1 c2 w1 hown1 hk1 ho1
    go_wp2_with fail
    try simp only [Act.put, List.setIfInBounds_toArray, List.set_cons_zero, List.set_cons_succ]
    refine ⟨?_, ?_⟩
    · unfold AgainAll; repeat (go_big_quiet_step (fail))
      exact again_end
    refine mix_cons' (by repeat (first | exact pick_end | apply (pick_step rfl))) (by repeat (first | exact pick_end | apply (pick_step rfl))) ?_
    refine wpQuiet_nil ?_
    intro nq
    have k1 : Kp [] w w1 := (show Kp [] w _ from (by repeat (first | exact Kp.refl _ _ | assumption | apply Kp.drewN | apply Kp.alloc))).trans' hk1 (by simp) (fun i hi => .inr (by simp [obp] at hi; omega))
    refine wpList_append_bytes rfl (.tmp 25) (.tmp 28) 32 rfl 5 Try.underlying32 infoU8 w.heap.size q (p.take (room - q.length)) (q ++ p.take (room - q.length)) (q.length + (room - q.length)) rfl rfl (hown1.drewN _) (((HS.out.kp k1 (by simp)).take (by omega)).drewN _) rfl ?_ ?_ ?_ ?_
    · rfl
    · omega
    · have := k1.size; simp; omega
    intro p2 c3 w2 hown2 hk2 ho2
    have k2 : Kp [] w w2 := (k1.drewN _).trans' hk2 (by simp) (fun i hi => .inr (hown1.obp_le i hi))
    have d1 := k2.cell c1 (by simp)
    have e1 := (k2.blk h.blk (by simp)).frozen 1
    go_wp2_with fail
    refine mix_nil ?_
    go_wp2_with fail
    go_ret
    exact rwrite_post h M.out hown2 k2 (by omega) (by omega)
  · obtain rfl : m = p.length := by omega
    clear hm
    go_enter Try.func14, Try.ntmps14
    go_wp2
    refine wp_region_mix [([0, 2, 6, 1, 3, 7, 4, 8, 5, 9, 10, 11, 12, 13], [], [])] (by kernel_rfl) (by kernel_rfl) ?_
    refine mix_cons' (by repeat (first | exact pick_end | apply (pick_step rfl))) (by repeat (first | exact pick_end | apply (pick_step rfl))) ?_
    repeat (go_big_quiet_step (fail))
    refine wpQuiet_nil ?_
    intro nq
    go_wp2_with fail
    refine mix_nil ?_
    go_wp2_with fail
    refine wp_region_mix [([0, 2, 7, 8, 3, 9, 4, 5], [1], [3, 4, 5, 9]), ([], [6], [9]), ([], [10, 11, 12, 13], [])] (by kernel_rfl) (by kernel_rfl) ?_
    refine mix_cons (by repeat (first | exact pick_end | apply (pick_step rfl))) (by repeat (first | exact pick_end | apply (pick_step rfl))) (by repeat (first | exact pick_end | apply (pick_step rfl))) ?_
    repeat (go_big_quiet_step (fail))
    refine wpQuiet_nil ?_
    intro nq
    go_wp2_with fail
    try simp only [Act.put, List.setIfInBounds_toArray, List.set_cons_zero, List.set_cons_succ]
    refine ⟨?_, ?_⟩
    · unfold AgainAll; repeat (go_big_quiet_step (fail))
      exact again_end
    refine mix_cons (by repeat (first | exact pick_end | apply (pick_step rfl))) (by repeat (first | exact pick_end | apply (pick_step rfl))) (by repeat (first | exact pick_end | apply (pick_step rfl))) ?_
    refine wpQuiet_nil ?_
    intro nq
    refine wpList_append_bytes rfl (.tmp 20) (.tmp 24) 32 rfl 5 Try.underlying32 infoU8 w.heap.size [] q q q.length rfl rfl (own_new (w.drewN _) _ _ (Nat.le_refl _)) (HB.out _ (by repeat (first | exact Kp.refl _ _ | assumption | apply Kp.drewN | apply Kp.alloc))) rfl ?_ ?_ ?_ ?_
    · omega
    · omega
    · simp
    intro p1 c2 w1 hown1 hk1 ho1
    go_wp2_with fail
    try simp only [Act.put, List.setIfInBounds_toArray, List.set_cons_zero, List.set_cons_succ]
    refine ⟨?_, ?_⟩
    · unfold AgainAll; repeat (go_big_quiet_step (fail))
      exact again_end
    refine mix_cons' (by repeat (first | exact pick_end | apply (pick_step rfl))) (by repeat (first | exact pick_end | apply (pick_step rfl))) ?_
    refine wpQuiet_nil ?_
    intro nq
    have k1 : Kp [] w w1 := (show Kp [] w _ from (by repeat (first | exact Kp.refl _ _ | assumption | apply Kp.drewN | apply Kp.alloc))).trans' hk1 (by simp) (fun i hi => .inr (by simp [obp] at hi; omega))
    refine wpList_append_bytes rfl (.tmp 25) (.tmp 28) 32 rfl 5 Try.underlying32 infoU8 w.heap.size q (p.take p.length) (q ++ p.take p.length) (q.length + p.length) rfl rfl (hown1.drewN _) (((HS.out.kp k1 (by simp)).take (by omega)).drewN _) rfl ?_ ?_ ?_ ?_
    · rfl
    · omega
    · have := k1.size; simp; omega
    intro p2 c3 w2 hown2 hk2 ho2
    have k2 : Kp [] w w2 := (k1.drewN _).trans' hk2 (by simp) (fun i hi => .inr (hown1.obp_le i hi))
    have d1 := k2.cell c1 (by simp)
    have e1 := (k2.blk h.blk (by simp)).frozen 1
    go_wp2_with fail
    refine mix_nil ?_
    go_wp2_with fail
    go_ret
    exact rwrite_post h M.out hown2 k2 (by omega) (by omega)

/-- what Drop gives -/
def RefDropped (w : World) (b room : Nat) (v : Value) (q : List UInt8) (m : Nat) (e : Ending) (w' : World) : Prop := e = .returned (.int .i64 m) ∧
      (∃ v', RefRing w' b v' room (q.drop m) ∧ (∀ i, i ∈ ob v' → i ∈ ob v)) ∧ Kp [b] w w'

theorem rdrop_post (h : RefRing w b v room q) {m : Nat} {x : Int} {V : Value} (hm : m ≤ q.length) (hB : Byt w V (q.drop m)) (hV : ∀ i, i ∈ ob V → i ∈ ob v) (hx : x = (m : Int)) :
    RefDropped w b room v q m (.returned (.int .i64 x)) (w.setCell ⟨b, 1, none⟩ V) := by
  subst hx
  refine ⟨rfl, ⟨V, ⟨h.big, by simp; have := h.fits; omega, ?_, ?_, fun hb => h.ne (hV b hb), fun i hi => ?_⟩, hV⟩, (Kp.refl _ _).setCell (.inl (by simp)) _⟩
  · have := h.blk.set 1 V
    simpa using this
  · exact hB.kp (L := [b]) ((Kp.refl _ _).setCell (.inl (by simp)) _) (fun i hi => by have := h.ne; rintro hb; simp at hb; subst hb; exact this (hV _ hi))
  · have := h.lt i (hV i hi)
    simpa [World.setCell] using this

set_option maxHeartbeats 800000 in
theorem rdrop_any (H0 : RefRing w b v room q) (n : Int) :
    Calls Try.prog 21 #[.pointer (some ⟨b, 0, none⟩), .int .i64 n] w (RefDropped w b room v q (min n.toNat q.length)) := by
  have c1 := H0.blk.cell (off := 1) rfl
  have f1 := H0.blk.frozen 1
  have h1 := H0.big
  have h2 := H0.fits
  have hb := H0.byt
  obtain ⟨vp, vc, rfl⟩ := hb.shape
  have hcap := hb.len
  have hcap2 := hcap.2.1
  clear hcap hb
  obtain ⟨m, hm⟩ : ∃ m, m = min n.toNat q.length := ⟨_, rfl⟩
  rw [← hm]
  have M := Lib.hid hm
  have hm1 : m ≤ q.length := by omega
  by_cases h0 : n ≤ 0
  · obtain rfl : m = 0 := by omega
    clear hm
    go_enter Try.func21, Try.ntmps21
    go_wp2
    all_goals go_ret
    all_goals first
      | exact rdrop_post H0 (by omega) (by simpa using H0.byt) (fun i hi => by simpa only [ob_slice, obp_map] using hi) rfl
      | exact rdrop_post H0 (by omega) (by simpa using H0.byt.drop1 (k := 0) (by omega) ‹_›) (fun i hi => by simpa only [ob_slice, obp_map] using hi) rfl
      | exact rdrop_post H0 (by omega) (by simpa using H0.byt.drop2 (k := 0) (by omega) ‹_›) (fun i hi => by simpa only [ob_slice, obp_map] using hi) rfl
  · by_cases h3 : (q.length : Int) < n
    · obtain rfl : m = q.length := by omega
      clear hm
      by_cases hq : q = []
      · subst hq
        simp only [List.length_nil] at *
        go_enter Try.func21, Try.ntmps21
        go_wp2
        all_goals go_ret
        all_goals first
          | exact rdrop_post H0 (by simp) (by simpa using H0.byt) (fun i hi => by simpa only [ob_slice, obp_map] using hi) rfl
          | exact rdrop_post H0 (by simp) (by simpa using H0.byt.drop1 (k := 0) (by omega) (by omega)) (fun i hi => by simpa only [ob_slice, obp_map] using hi) rfl
          | exact rdrop_post H0 (by simp) (by simpa using H0.byt.drop2 (k := 0) (by omega) (by omega)) (fun i hi => by simpa only [ob_slice, obp_map] using hi) rfl
      · have hq0 : 0 < q.length := List.length_pos_iff.2 hq
        clear hq
        rcases Nat.eq_or_lt_of_le hcap2 with hv | hv
        · subst hv
          go_enter Try.func21, Try.ntmps21
          go_wp2
          go_ret
          exact rdrop_post H0 (by omega) (by simpa using H0.byt.drop1 (k := q.length) (by omega) (by omega)) (fun i hi => by simpa only [ob_slice, obp_map] using hi) rfl
        · have hv' : ¬ vc = q.length := by omega
          go_enter Try.func21, Try.ntmps21
          go_wp2
          go_ret
          exact rdrop_post H0 (by omega) (by simpa using H0.byt.drop2 (k := q.length) (by omega) hv') (fun i hi => by simpa only [ob_slice, obp_map] using hi) rfl
    · obtain rfl : n = m := by omega
      clear hm
      rcases Nat.eq_or_lt_of_le (show m ≤ vc by omega) with hv | hv
      · subst hv
        go_enter Try.func21, Try.ntmps21
        go_wp2
        go_ret
        exact rdrop_post H0 (by omega) (by have hd := H0.byt.drop1 (k := m) (by omega) rfl; rwa [show q.length - m = 0 by omega, Nat.sub_self] at hd) (fun i hi => by simpa only [ob_slice, obp_map] using hi) rfl
      · have hv' : ¬ vc = m := by omega
        go_enter Try.func21, Try.ntmps21
        go_wp2
        go_ret
        exact rdrop_post H0 (by omega) (by simpa using H0.byt.drop2 (k := m) (by omega) hv') (fun i hi => by simpa only [ob_slice, obp_map] using hi) rfl

/-- what Peek gives -/
def RefPeeked (w : World) (l : List UInt8) (e : Ending) (w' : World) : Prop := ∃ v, e = .returned v ∧ OwnB w' w.heap.size 5 v l ∧ Kp [] w w'

/-- the middle of what is read -/
theorem Byt.mid {w : World} {p : Option Addr} {c n : Nat} {l : List UInt8} (h : Byt w (.slice p n c) l) {k j : Nat} (hk : k ≤ j) (hj : j ≤ n) :
    (c = k → Byt w (.slice p (j - k) (c - k)) ((l.drop k).take (j - k))) ∧ (¬ c = k → Byt w (.slice (p.map (fun x => x.add k)) (j - k) (c - k)) ((l.drop k).take (j - k))) :=
  ⟨fun hc => (h.drop1 (by omega) hc).take (by omega), fun hc => (h.drop2 (by omega) hc).take (by omega)⟩

theorem take_same {q : List UInt8} {k n m : Nat} (hm : m = min n (q.length - k)) : (q.drop k).take m = (q.drop k).take n := by
  rw [hm, ← List.length_drop]; exact (List.take_eq_take_min ..).symm

theorem rpeek_post {w w1 : World} {l : List UInt8} {v v' : Value} (h : OwnB w1 w.heap.size 5 v l) (hk : Kp [] w w1) (hv : v' = v) : RefPeeked w l (.returned v') w1 := by
  subst hv
  exact ⟨_, rfl, h, hk⟩

set_option maxHeartbeats 800000 in
theorem rpeek_none (h : RefRing w b v room q) (k n : Int) (hz : k < 0 ∨ (0 ≤ k ∧ n < 0) ∨ (0 ≤ k ∧ 0 ≤ n ∧ q.length < k)) :
    Calls Try.prog 19 #[.pointer (some ⟨b, 0, none⟩), .int .i64 k, .int .i64 n] w (RefPeeked w []) := by
  have c1 := h.blk.cell (off := 1) rfl
  obtain ⟨vp, vc, rfl⟩ := h.byt.shape
  rcases hz with hz | ⟨hk, hz⟩ | ⟨hk, hn, hz⟩
  all_goals
    go_enter Try.func19, Try.ntmps19
    go_wp2
    go_ret
    exact ⟨_, rfl, World.ownsRow_nil _ _ _ _, Kp.refl _ _⟩


set_option maxHeartbeats 1600000 in
theorem rpeek_some (h : RefRing w b v room q) (k n : Nat) (hk : k ≤ q.length) :
    Calls Try.prog 19 #[.pointer (some ⟨b, 0, none⟩), .int .i64 k, .int .i64 n] w (RefPeeked w ((q.drop k).take n)) := by
  have c1 := h.blk.cell (off := 1) rfl
  have h1 := h.big
  have h2 := h.fits
  have cA : ∀ n o, ((w.drewN n).alloc o).cell? ⟨b, 1, none⟩ = some v := fun n o => ((h.blk.drewN n).alloc o).cell rfl
  obtain ⟨vp, vc, rfl⟩ := h.byt.shape
  have hcap := h.byt.len
  have hcap2 := hcap.2.1
  clear hcap
  have hk0 : (0 : Int) ≤ k := by omega
  have hn0 : (0 : Int) ≤ n := by omega
  rcases Nat.lt_or_ge (q.length - k) n with hmin | hmin
  · by_cases hv : vc = k
    · go_enter Try.func19, Try.ntmps19
      go_wp2
      refine wp_region_mix [([1, 5, 6, 7, 8, 13, 2, 9, 3, 10, 4, 11, 12, 14, 15, 16, 17], [0], [2, 3, 4, 9, 10, 11, 12, 14, 15, 16, 17]), ([], [18, 19], [])] (by kernel_rfl) (by kernel_rfl) ?_
      refine mix_cons (by repeat (first | exact pick_end | apply (pick_step rfl))) (by repeat (first | exact pick_end | apply (pick_step rfl))) (by repeat (first | exact pick_end | apply (pick_step rfl))) ?_
      repeat (go_big_quiet_step (fail))
      refine wpQuiet_nil ?_
      intro nq
      go_wp2_with fail
      try simp only [Act.put, List.setIfInBounds_toArray, List.set_cons_zero, List.set_cons_succ]
      refine ⟨?_, ?_⟩
      · unfold AgainAll; repeat (go_big_quiet_step (fail))
        exact again_end
      refine mix_cons' (by repeat (first | exact pick_end | apply (pick_step rfl))) (by repeat (first | exact pick_end | apply (pick_step rfl))) ?_
      refine wpQuiet_nil ?_
      intro nq
      refine wpList_append_bytes rfl (.tmp 22) (.tmp 39) 32 rfl 5 Try.underlying32 infoU8 w.heap.size [] ((q.drop k).take n) ((q.drop k).take n) _ rfl rfl (own_new (w.drewN _) _ _ (Nat.le_refl _)) (by have hb2 := (by have := (h.byt.mid (k := k) (j := k + (q.length - k)) (by omega) (by omega)).1 hv; rwa [hv, Nat.sub_self] at this); have e := take_same (q := q) (k := k) (n := n) (m := k + (q.length - k) - k) (by omega); rw [e] at hb2; exact hb2.kp (L := []) (by repeat (first | exact Kp.refl _ _ | apply Kp.drewN | apply Kp.alloc)) (by simp)) rfl rfl ?_ ?_ ?_
      · omega
      · simp
      intro p1 c2 w1 hown1 hk1 ho1
      go_wp2_with fail
      refine mix_nil ?_
      go_wp2_with fail
      go_ret
      refine rpeek_post hown1 ((show Kp [] w _ from (by repeat (first | exact Kp.refl _ _ | assumption | apply Kp.drewN | apply Kp.alloc))).trans' hk1 (by simp) (fun i hi => .inr (by simp [obp] at hi; omega))) ?_
      simp
    · go_enter Try.func19, Try.ntmps19
      go_wp2
      refine wp_region_mix [([1, 5, 6, 7, 8, 13, 2, 9, 3, 10, 4, 11, 12, 14, 15, 16, 17], [0], [2, 3, 4, 9, 10, 11, 12, 14, 15, 16, 17]), ([], [18, 19], [])] (by kernel_rfl) (by kernel_rfl) ?_
      refine mix_cons (by repeat (first | exact pick_end | apply (pick_step rfl))) (by repeat (first | exact pick_end | apply (pick_step rfl))) (by repeat (first | exact pick_end | apply (pick_step rfl))) ?_
      repeat (go_big_quiet_step (fail))
      refine wpQuiet_nil ?_
      intro nq
      go_wp2_with fail
      try simp only [Act.put, List.setIfInBounds_toArray, List.set_cons_zero, List.set_cons_succ]
      refine ⟨?_, ?_⟩
      · unfold AgainAll; repeat (go_big_quiet_step (fail))
        exact again_end
      refine mix_cons' (by repeat (first | exact pick_end | apply (pick_step rfl))) (by repeat (first | exact pick_end | apply (pick_step rfl))) ?_
      refine wpQuiet_nil ?_
      intro nq
      refine wpList_append_bytes rfl (.tmp 22) (.tmp 39) 32 rfl 5 Try.underlying32 infoU8 w.heap.size [] ((q.drop k).take n) ((q.drop k).take n) _ rfl rfl (own_new (w.drewN _) _ _ (Nat.le_refl _)) (by have hb2 := ((h.byt.mid (k := k) (j := k + (q.length - k)) (by omega) (by omega)).2 hv); have e := take_same (q := q) (k := k) (n := n) (m := k + (q.length - k) - k) (by omega); rw [e] at hb2; exact hb2.kp (L := []) (by repeat (first | exact Kp.refl _ _ | apply Kp.drewN | apply Kp.alloc)) (by simp)) rfl rfl ?_ ?_ ?_
      · omega
      · simp
      intro p1 c2 w1 hown1 hk1 ho1
      go_wp2_with fail
      refine mix_nil ?_
      go_wp2_with fail
      go_ret
      refine rpeek_post hown1 ((show Kp [] w _ from (by repeat (first | exact Kp.refl _ _ | assumption | apply Kp.drewN | apply Kp.alloc))).trans' hk1 (by simp) (fun i hi => .inr (by simp [obp] at hi; omega))) ?_
      simp
  · by_cases hv : vc = k
    · go_enter Try.func19, Try.ntmps19
      go_wp2
      refine wp_region_mix [([1, 5, 6, 7, 8, 13, 2, 9, 3, 10, 4, 11, 12, 14, 15, 16, 17], [0], [2, 3, 4, 9, 10, 11, 12, 14, 15, 16, 17]), ([], [18, 19], [])] (by kernel_rfl) (by kernel_rfl) ?_
      refine mix_cons (by repeat (first | exact pick_end | apply (pick_step rfl))) (by repeat (first | exact pick_end | apply (pick_step rfl))) (by repeat (first | exact pick_end | apply (pick_step rfl))) ?_
      repeat (go_big_quiet_step (fail))
      refine wpQuiet_nil ?_
      intro nq
      go_wp2_with fail
      try simp only [Act.put, List.setIfInBounds_toArray, List.set_cons_zero, List.set_cons_succ]
      refine ⟨?_, ?_⟩
      · unfold AgainAll; repeat (go_big_quiet_step (fail))
        exact again_end
      refine mix_cons' (by repeat (first | exact pick_end | apply (pick_step rfl))) (by repeat (first | exact pick_end | apply (pick_step rfl))) ?_
      refine wpQuiet_nil ?_
      intro nq
      refine wpList_append_bytes rfl (.tmp 22) (.tmp 39) 32 rfl 5 Try.underlying32 infoU8 w.heap.size [] ((q.drop k).take n) ((q.drop k).take n) _ rfl rfl (own_new (w.drewN _) _ _ (Nat.le_refl _)) (by have hb2 := (by have := (h.byt.mid (k := k) (j := k + n) (by omega) (by omega)).1 hv; rwa [hv, Nat.sub_self] at this); have e := take_same (q := q) (k := k) (n := n) (m := k + n - k) (by omega); rw [e] at hb2; exact hb2.kp (L := []) (by repeat (first | exact Kp.refl _ _ | apply Kp.drewN | apply Kp.alloc)) (by simp)) rfl rfl ?_ ?_ ?_
      · omega
      · simp
      intro p1 c2 w1 hown1 hk1 ho1
      go_wp2_with fail
      refine mix_nil ?_
      go_wp2_with fail
      go_ret
      refine rpeek_post hown1 ((show Kp [] w _ from (by repeat (first | exact Kp.refl _ _ | assumption | apply Kp.drewN | apply Kp.alloc))).trans' hk1 (by simp) (fun i hi => .inr (by simp [obp] at hi; omega))) ?_
      simp
    · go_enter Try.func19, Try.ntmps19
      go_wp2
      refine wp_region_mix [([1, 5, 6, 7, 8, 13, 2, 9, 3, 10, 4, 11, 12, 14, 15, 16, 17], [0], [2, 3, 4, 9, 10, 11, 12, 14, 15, 16, 17]), ([], [18, 19], [])] (by kernel_rfl) (by kernel_rfl) ?_
      refine mix_cons (by repeat (first | exact pick_end | apply (pick_step rfl))) (by repeat (first | exact pick_end | apply (pick_step rfl))) (by repeat (first | exact pick_end | apply (pick_step rfl))) ?_
      repeat (go_big_quiet_step (fail))
      refine wpQuiet_nil ?_
      intro nq
      go_wp2_with fail
      try simp only [Act.put, List.setIfInBounds_toArray, List.set_cons_zero, List.set_cons_succ]
      refine ⟨?_, ?_⟩
      · unfold AgainAll; repeat (go_big_quiet_step (fail))
        exact again_end
      refine mix_cons' (by repeat (first | exact pick_end | apply (pick_step rfl))) (by repeat (first | exact pick_end | apply (pick_step rfl))) ?_
      refine wpQuiet_nil ?_
      intro nq
      refine wpList_append_bytes rfl (.tmp 22) (.tmp 39) 32 rfl 5 Try.underlying32 infoU8 w.heap.size [] ((q.drop k).take n) ((q.drop k).take n) _ rfl rfl (own_new (w.drewN _) _ _ (Nat.le_refl _)) (by have hb2 := ((h.byt.mid (k := k) (j := k + n) (by omega) (by omega)).2 hv); have e := take_same (q := q) (k := k) (n := n) (m := k + n - k) (by omega); rw [e] at hb2; exact hb2.kp (L := []) (by repeat (first | exact Kp.refl _ _ | apply Kp.drewN | apply Kp.alloc)) (by simp)) rfl rfl ?_ ?_ ?_
      · omega
      · simp
      intro p1 c2 w1 hown1 hk1 ho1
      go_wp2_with fail
      refine mix_nil ?_
      go_wp2_with fail
      go_ret
      refine rpeek_post hown1 ((show Kp [] w _ from (by repeat (first | exact Kp.refl _ _ | assumption | apply Kp.drewN | apply Kp.alloc))).trans' hk1 (by simp) (fun i hi => .inr (by simp [obp] at hi; omega))) ?_
      simp

end
end Go.Proofs.Ytodedpmedkgkmaa

/-
  wharflaw13.RingPlays: its walk.
-/
import Derived.Test.YtodedpmedkgkmaaHeavy
import Derived.Test.YtodedpmedkgkmaaRingRef
set_option linter.unusedVariables false
set_option linter.unusedSimpArgs false
namespace Go.Proofs.Ytodedpmedkgkmaa
open Go.RowKit

theorem RingAt.lt {w : World} {b rb room : Nat} {q : List UInt8} (h : RingAt w b rb room q) : b < w.heap.size ∧ rb < w.heap.size := by
  obtain ⟨row, at_, h⟩ := h
  exact ⟨h.blk.lt, h.rblk.lt⟩

theorem ringwrite {w : World} {b rb room : Nat} {q : List UInt8} (h : RingAt w b rb room q) (v : Value) (p : List UInt8) (hv : Byt w v p) (hne : p = [] ∨ rb ∉ ob v) :
    Calls Try.prog 13 #[.pointer (some ⟨b, 0, none⟩), v] w fun e w' => e = .returned (.int .i64 (min p.length (room - q.length) : Nat)) ∧ RingAt w' b rb room (q ++ p.take (min p.length (room - q.length))) ∧ Kp [b, rb] w w' := by
  obtain ⟨row, at_, h⟩ := h
  exact write_any h v p hv (hne.imp id fun hn e => hn (by simp [ob, e]))
theorem ringdrop {w : World} {b rb room : Nat} {q : List UInt8} (h : RingAt w b rb room q) (n : Int) :
    Calls Try.prog 20 #[.pointer (some ⟨b, 0, none⟩), .int .i64 n] w fun e w' => e = .returned (.int .i64 (min n.toNat q.length : Nat)) ∧ RingAt w' b rb room (q.drop (min n.toNat q.length)) ∧ Kp [b] w w' := by
  obtain ⟨row, at_, h⟩ := h
  exact drop_any h n
theorem ringpeek {w : World} {b rb room : Nat} {q : List UInt8} (h : RingAt w b rb room q) (k n : Int) :
    Calls Try.prog 17 #[.pointer (some ⟨b, 0, none⟩), .int .i64 k, .int .i64 n] w fun e w' => ∃ v, e = .returned v ∧ OwnB w' w.heap.size 5 v (peekTo q k n) ∧ Kp [] w w' := by
  obtain ⟨row, at_, h⟩ := h
  exact peek_any h k n
theorem ringlen {w : World} {b rb room : Nat} {q : List UInt8} (h : RingAt w b rb room q) :
    Calls Try.prog 22 #[.pointer (some ⟨b, 0, none⟩)] w fun e w' => e = .returned (.int .i64 q.length) ∧ ∃ m, w' = w.drewN m := by
  obtain ⟨row, at_, h⟩ := h
  exact len_any h
theorem ringfree {w : World} {b rb room : Nat} {q : List UInt8} (h : RingAt w b rb room q) :
    Calls Try.prog 24 #[.pointer (some ⟨b, 0, none⟩)] w fun e w' => e = .returned (.int .i64 ((room : Int) - q.length)) ∧ ∃ m, w' = w.drewN m := by
  obtain ⟨row, at_, h⟩ := h
  exact free_any h _ rfl
theorem RingAt.fits {w : World} {b rb room : Nat} {q : List UInt8} (h : RingAt w b rb room q) : q.length ≤ room ∧ room ≤ 1048560 := by
  obtain ⟨row, at_, h⟩ := h
  exact ⟨h.fits, h.big⟩

theorem refpeek {w : World} {b room : Nat} {v : Value} {q : List UInt8} (h : RefRing w b v room q) (k n : Int) :
    Calls Try.prog 19 #[.pointer (some ⟨b, 0, none⟩), .int .i64 k, .int .i64 n] w (RefPeeked w (peekTo q k n)) := by
  by_cases hz : k < 0 ∨ (0 ≤ k ∧ n < 0) ∨ (0 ≤ k ∧ 0 ≤ n ∧ q.length < k)
  · have e0 : peekTo q k n = [] := by
      unfold peekTo
      split
      · rfl
      · rw [List.drop_of_length_le (by omega), List.take_nil]
    rw [e0]
    exact rpeek_none h k n hz
  · obtain ⟨k', rfl⟩ := Int.eq_ofNat_of_zero_le (show 0 ≤ k by omega)
    obtain ⟨n', rfl⟩ := Int.eq_ofNat_of_zero_le (show 0 ≤ n by omega)
    have e0 : peekTo q k' n' = (q.drop k').take n' := by
      unfold peekTo
      rw [if_neg (by omega)]
      rfl
    rw [e0]
    exact rpeek_some h k' n' (by omega)

theorem own_head {w : World} {base c : Nat} {e : TypeId} {p : Option Addr} {bs : List UInt8} (h : OwnB w base e (.slice p (bs.length + 1) c) (bs ++ [171])) : OwnB w base e (.slice p bs.length c) bs := by
  have := h.take (k := bs.length) (by omega)
  rwa [List.take_left' rfl] at this

/-- both rings hold q -/
structure Both (w0 w : World) (b rb b2 room : Nat) (q : List UInt8) : Prop where
  ring : RingAt w b rb room q
  ref : ∃ v, RefRing w b2 v room q ∧ ∀ i, i ∈ ob v → w0.heap.size ≤ i ∧ i ≠ b ∧ i ≠ rb
  kp : Kp [] w0 w
  lo : w0.heap.size ≤ b ∧ w0.heap.size ≤ rb ∧ w0.heap.size ≤ b2 ∧ b2 ≠ b ∧ b2 ≠ rb

theorem Both.kp' {w0 w w' : World} {b rb b2 room : Nat} {q : List UInt8} {L : List Nat} (h : Both w0 w b rb b2 room q) (k : Kp L w w') (hL : ∀ i, i ∈ L → w.heap.size ≤ i) : Both w0 w' b rb b2 room q := by
  have h1 := h.ring.lt
  obtain ⟨v, hv, hi⟩ := h.ref
  have h2 := hv.blk.lt
  exact ⟨h.ring.kp k (fun hm => by have := hL _ hm; omega) (fun hm => by have := hL _ hm; omega), ⟨v, hv.kp k (fun hm => by have := hL _ hm; omega) (fun i hi hm => by have := hL _ hm; have := hv.lt i hi; omega), hi⟩,
    h.kp.trans' k (by simp) (fun i hi => .inr (by have := hL i hi; have := h.kp.size; omega)), h.lo⟩

set_option maxRecDepth 10000 in
set_option maxHeartbeats 3200000 in
theorem plays_some (room : Nat) (p : Option Addr) (n c : Nat) (D : Nat → StepD) (w : World) (hr1 : 1 ≤ room) (hr2 : room ≤ 1048560) (hS : StepsAt w p n D) (hn : n ≤ 9223372036854775807)  :
    Calls Try.prog 3 #[.int .i64 room, .slice p n c] w fun e w' => e = .returned (.bool true) ∧ Kp [] w w' := by
  have HS := Lib.hid hS
  clear hS
  go_enter Try.func3, Try.ntmps3
  go_wp2_with (go_at_call 8; refine (heavy_any p n c D w HS.out hn).mono ?_; rintro e w1 ⟨h, rfl, hlen, hk1⟩)
  · go_wp2_with (go_at_call 9; refine (known_any _).mono ?_; rintro e w2 ⟨rfl, hk2⟩)
    go_ret
    exact ⟨rfl, hk1.trans hk2⟩
  · have HL := Lib.hid (hlen (by assumption))
    clear hlen
    go_wp2_with (go_at_call 10; refine (new_any room _).mono ?_; rintro e w2 ⟨hk2, ⟨hz, _⟩ | ⟨_, rfl, hr2, hz2⟩⟩; exact absurd ⟨by omega, by omega⟩ hz)
    go_wp2_with (go_at_call 11; refine (rnew_any room _).mono ?_; rintro e w3 ⟨hk3, ⟨hz, _⟩ | ⟨_, rfl, hr3, hz3⟩⟩; exact absurd ⟨by omega, by omega⟩ hz)
    have hr2' : RingAt w2 (w1.heap.size + 1) w1.heap.size room [] := by simpa using hr2
    have hr3' : RefRing w3 (w1.heap.size + 2) (.slice none 0 0) room [] := by simpa [hz2] using hr3
    have hB : Both w w3 (w1.heap.size + 1) w1.heap.size (w1.heap.size + 2) room [] :=
      ⟨hr2'.kp hk3 (by simp) (by simp), ⟨_, hr3', by simp [ob, Value.ownBlock]⟩, (hk1.trans hk2).trans hk3, by have := hk1.size; omega⟩
    clear hr2 hr3 hr2' hr3' hk2 hk3 hk1 hz2 hz3
    go_loopw [9] (fun i wr => ∃ (k : Nat) (q : List UInt8), k ≤ n ∧ k ≤ 200 ∧ i = .int .i64 k ∧ Both w wr (w1.heap.size + 1) w1.heap.size (w1.heap.size + 2) room q) (fun i _ => 200 - (intOf i).toNat)
    case atStart => exact ⟨0, [], Nat.zero_le _, by omega, rfl, hB⟩
    case round =>
      obtain ⟨k, q, hk, hk2, rfl, H⟩ := hrel
      generalize hg1 : w1.heap.size = rb at H
      by_cases hlt : k < n
      · by_cases h200 : k < 200
        · obtain ⟨g, o, rfl, e1, e2, e3, e4, hb, h6⟩ := (HS.out.kp H.kp) k hlt
          have hbl := HL.out k hlt h200
          obtain ⟨d, hd⟩ : ∃ d, D k = d := ⟨_, rfl⟩
          rw [hd] at e1 e2 e3 e4 hb hbl
          clear h6
          have hB0 : ∀ w', Kp [] w w' → Byt w' d.v d.b := fun w' k' => by obtain ⟨_, _, _, _, _, _, _, hb', _⟩ := (HS.out.kp k') k hlt; rwa [hd] at hb'
          clear hd
          obtain ⟨kd, xa, xn, xv, bs⟩ := d
          obtain ⟨bp, bc, hv⟩ := hb.shape
          simp only [] at e1 e2 e3 e4 hb hbl hv hB0
          subst hv
          have HB := Lib.hid (show ∀ w', Kp [] w w' → Byt w' (.slice bp bs.length bc) bs from hB0)
          clear hB0
          have hfit := H.ring.fits
          have hlt2 := H.ring.lt
          have hlt3 : rb + 2 < wr.heap.size := by obtain ⟨_, hv, _⟩ := H.ref; exact hv.blk.lt
          by_cases hkd : kd = 1
          · subst hkd
            have hlo := H.lo
            go_wp2_with fail
            refine (l13_roomy _ bs _ (hb.kp (L := []) (by repeat (first | exact Kp.refl _ _ | apply Kp.drewN | apply Kp.alloc)) (by simp)) (by omega)).mono ?_
            rintro e w2 ⟨v2, rfl, hown2, hk2⟩
            obtain ⟨p2, c2, rfl, _, hc2⟩ := hown2.shape
            simp only [List.length_append, List.length_cons, List.length_nil, Nat.zero_add] at hown2 hc2 ⊢
            have B2 := hk2.blk (Blk.new wr [.int .i64 1, .int .i64 xa, .int .i64 xn, .slice bp bs.length bc] 34) (by simp)
            have H2 := H.kp' (L := []) (((Kp.refl [] wr).alloc _).trans hk2) (by simp)
            have hl2 : ∀ i, i ∈ obp p2 → wr.heap.size < i := fun i hi => by have := (hown2.lt i (by rw [ob_slice]; exact hi)).1; simp at this; omega
            have hu2 : ∀ i, i ∈ obp p2 → i < w2.heap.size := fun i hi => (hown2.lt i (by rw [ob_slice]; exact hi)).2
            have y3 := B2.cell (off := 3) rfl
            go_wp2_with fail
            refine wp_region_mix [([0, 1, 2, 7, 8, 3, 9, 4, 5], [6], [8, 9]), ([], [10, 11, 12], []), ([13, 14, 15], [16, 17, 18], [])] (by kernel_rfl) (by kernel_rfl) ?_
            refine mix_cons (by repeat (first | exact pick_end | apply (pick_step rfl))) (by repeat (first | exact pick_end | apply (pick_step rfl))) (by repeat (first | exact pick_end | apply (pick_step rfl))) ?_
            repeat (go_big_quiet_step (fail))
            refine wpQuiet_nil ?_
            intro nq
            go_wp2_with fail
            obtain ⟨m, hm⟩ : ∃ m, min bs.length (room - q.length) = m := ⟨_, rfl⟩
            have hrw := ringwrite (H2.ring.drewN nq) (.slice p2 bs.length c2) bs ((own_head hown2).byt.drewN nq) (.inr <| by rw [ob_slice]; intro hm; have := hl2 _ hm; omega)
            rw [hm] at hrw
            refine hrw.mono ?_
            clear hrw
            rintro e w3 ⟨rfl, hr3, hk3⟩
            have B3 := hk3.blk (B2.drewN _) (by simp; omega)
            have z3 := B3.cell (off := 3) rfl
            have hown3 := (hown2.drewN nq).kp hk3 (by rw [ob_slice]; intro i hi; have := hl2 _ hi; simp; omega)
            have HM := Lib.hid hm
            clear y3 hm
            go_wp2_with fail
            try simp only [Act.put, List.setIfInBounds_toArray, List.set_cons_zero, List.set_cons_succ]
            refine ⟨?_, ?_⟩
            · unfold AgainAll; repeat (go_big_quiet_step (fail))
              exact again_end
            refine mix_cons' (by repeat (first | exact pick_end | apply (pick_step rfl))) (by repeat (first | exact pick_end | apply (pick_step rfl))) ?_
            refine wpQuiet_nil ?_
            intro nq
            go_wp2_with fail
            have kk2 : Kp [] w w2 := (H.kp.alloc _).trans hk2
            have kk3 : Kp [] w w3 := (kk2.drewN _).trans' hk3 (by simp) (by simp; omega)
            obtain ⟨rv, hrv, hri⟩ := H2.ref
            have hrv3 := (hrv.drewN _).kp hk3 (by simp) (fun i hi => by have := hri i hi; simp; omega)
            refine (rwrite_any (hrv3.drewN nq) _ bs ((HB.out _ kk3).drewN nq)).mono ?_
            rintro e w4 ⟨he, ⟨rv4, hrv4, hri4⟩, hk4⟩
            rw [HM.out] at he hrv4
            subst he
            have B4 := hk4.blk (B3.drewN _) (by simp; omega)
            have hs3 := hk3.size
            simp only [World.heap_drewN] at hs3 hri4
            have x3 := B4.cell (off := 3) rfl
            have hown4 := (hown3.drewN nq).kp hk4 (by rw [ob_slice]; intro i hi; have := hl2 _ hi; simp; omega)
            have hr4 := (hr3.drewN nq).kp hk4 (by simp) (by simp)
            have kk4 : Kp [] w w4 := (kk3.drewN _).trans' hk4 (by simp) (by simp; omega)
            clear z3 hr3 hrv3 hrv
            go_wp2_with fail
            refine mix_cons' (by repeat (first | exact pick_end | apply (pick_step rfl))) (by repeat (first | exact pick_end | apply (pick_step rfl))) ?_
            repeat (go_big_quiet_step (fail))
            refine wpQuiet_nil ?_
            intro nq
            go_wp2_with fail
            refine (l13_stands _ _ (bs ++ [171]) bs _ (hown4.byt.drewN _) ((HB.out _ kk4).drewN _) (by omega)).mono ?_
            rw [show sameTo (bs ++ [171]) (bs ++ [171]) = true by simp [sameTo]]
            rintro e w5 ⟨rfl, n5, rfl⟩
            go_wp2_with fail
            refine mix_nil ?_
            go_wp2_with fail
            refine (l13_spoil _ (bs ++ [171]) _ ((hown4.mono (Nat.zero_le _)).drewN _) (by simp; omega)).mono ?_
            rintro e w6 ⟨rfl, hk6⟩
            rw [ob_slice] at hk6
            have k46 : Kp (obp p2) w4 w6 := ((by repeat (first | exact Kp.refl _ _ | apply Kp.drewN | apply Kp.alloc)) : Kp _ _ _).trans hk6
            have HT : Both w w6 (rb + 1) rb (rb + 2) room (q ++ bs.take m) :=
              ⟨hr4.kp k46 (fun hi => by have := hl2 _ hi; omega) (fun hi => by have := hl2 _ hi; omega),
                ⟨rv4, hrv4.kp k46 (fun hi => by have := hl2 _ hi; omega) (fun i hi hj => by have := hri4 i hi; have := hu2 i hj; omega), fun i hi => by have := hri4 i hi; have := H2.kp.size; have := hk2.size; simp at this; omega⟩,
                kk4.trans' k46 (by simp) (fun i hi => by have := hl2 i hi; have := H.kp.size; exact .inr (by omega)), hlo⟩
            generalize q ++ bs.take m = q' at HT
            have hft := HT.ring.fits
            obtain ⟨rvT, hrvT, hriT⟩ := HT.ref
            go_wp2_with fail
            refine (ringlen HT.ring).mono ?_
            rintro e w21 ⟨rfl, n21, rfl⟩
            go_wp2_with fail
            refine (rlen_any (hrvT.drewN _)).mono ?_
            rintro e w22 ⟨rfl, n22, rfl⟩
            go_wp2_with fail
            refine (ringfree (HT.ring.drewN _)).mono ?_
            rintro e w23 ⟨rfl, n23, rfl⟩
            go_wp2_with fail
            refine (rfree_any (hrvT.drewN _)).mono ?_
            rintro e w24 ⟨rfl, n24, rfl⟩
            go_wp2_with fail
            refine (ringlen (HT.ring.drewN _)).mono ?_
            rintro e w25 ⟨rfl, n25, rfl⟩
            go_wp2_with fail
            refine (ringfree (HT.ring.drewN _)).mono ?_
            rintro e w26 ⟨rfl, n26, rfl⟩
            go_wp2_with fail
            go_roundw
            case rel => exact ⟨k + 1, q', by omega, by omega, by go_num, HT.kp' (L := []) (by repeat (first | exact Kp.refl _ _ | apply Kp.drewN | apply Kp.alloc)) (by simp)⟩
            case measure => simp [intOf]; omega
          · by_cases hkd2 : kd = 2
            · subst hkd2
              have hlo := H.lo
              have B0 := Blk.new wr [.int .i64 2, .int .i64 xa, .int .i64 xn, .slice bp bs.length bc] 34
              have H1 := H.kp' (L := []) ((Kp.refl [] wr).alloc (.cells #[.int .i64 2, .int .i64 xa, .int .i64 xn, .slice bp bs.length bc] 34)) (by simp)
              go_wp2_with fail
              refine (ringpeek H1.ring xa xn).mono ?_
              rintro e w2 ⟨v2, rfl, hown2, hk2⟩
              have H2 := H1.kp' hk2 (by simp)
              obtain ⟨rv, hrv1, hri⟩ := H1.ref
              have hrv := hrv1.kp hk2 (by simp) (by simp)
              obtain ⟨p2, c2, rfl, _, hc2⟩ := hown2.shape
              have B2 := hk2.blk B0 (by simp)
              have y1 := B2.cell (off := 1) rfl
              have y2 := B2.cell (off := 2) rfl
              have hq : (peekTo q xa xn).length ≤ 1048560 := by
                unfold peekTo
                split
                · simp
                · simp only [List.length_take, List.length_drop]; omega
              have hrp := refpeek hrv xa xn
              generalize peekTo q xa xn = pk at hown2 hc2 hq hrp
              go_wp2_with fail
              refine hrp.mono ?_
              rintro e w3 ⟨v3, rfl, hown3, hk3⟩
              obtain ⟨p3, c3, rfl, _, hc3⟩ := hown3.shape
              have hown2' := hown2.kp hk3 (by simp)
              have H3 := H2.kp' hk3 (by simp)
              have hl2 : ∀ i, i ∈ obp p2 → wr.heap.size < i ∧ i < w2.heap.size := fun i hi => by have := hown2.lt i (by rw [ob_slice]; exact hi); simp at this; omega
              go_wp2_with fail
              refine (l13_same _ _ pk pk _ hown2'.byt hown3.byt).mono ?_
              rw [show sameTo pk pk = true by simp [sameTo]]
              rintro e w5 ⟨rfl, n5, rfl⟩
              go_wp2_with fail
              refine (l13_spoil _ pk _ ((hown2'.mono (Nat.zero_le _)).drewN _) (by omega)).mono ?_
              rintro e w6 ⟨rfl, hk6⟩
              rw [ob_slice] at hk6
              have k36 : Kp (obp p2) w3 w6 := ((by repeat (first | exact Kp.refl _ _ | apply Kp.drewN | apply Kp.alloc)) : Kp _ _ _).trans hk6
              have hrv3 := hrv.kp hk3 (by simp) (by simp)
              have hriu : ∀ i, i ∈ ob rv → i ∉ obp p2 := fun i hi hj => by have h1 := hrv1.lt i hi; have h2 := (hown2.lt i (by rw [ob_slice]; exact hj)).1; omega
              have HT : Both w w6 (rb + 1) rb (rb + 2) room q :=
                ⟨H3.ring.kp k36 (fun hi => by have := hl2 _ hi; omega) (fun hi => by have := hl2 _ hi; omega),
                  ⟨rv, hrv3.kp k36 (fun hi => by have := hl2 _ hi; omega) hriu, hri⟩,
                  H3.kp.trans' k36 (by simp) (fun i hi => by have := hl2 i hi; have := H.kp.size; exact .inr (by omega)), hlo⟩
              generalize q = q' at HT
              have hft := HT.ring.fits
              obtain ⟨rvT, hrvT, hriT⟩ := HT.ref
              go_wp2_with fail
              refine (ringlen HT.ring).mono ?_
              rintro e w21 ⟨rfl, n21, rfl⟩
              go_wp2_with fail
              refine (rlen_any (hrvT.drewN _)).mono ?_
              rintro e w22 ⟨rfl, n22, rfl⟩
              go_wp2_with fail
              refine (ringfree (HT.ring.drewN _)).mono ?_
              rintro e w23 ⟨rfl, n23, rfl⟩
              go_wp2_with fail
              refine (rfree_any (hrvT.drewN _)).mono ?_
              rintro e w24 ⟨rfl, n24, rfl⟩
              go_wp2_with fail
              refine (ringlen (HT.ring.drewN _)).mono ?_
              rintro e w25 ⟨rfl, n25, rfl⟩
              go_wp2_with fail
              refine (ringfree (HT.ring.drewN _)).mono ?_
              rintro e w26 ⟨rfl, n26, rfl⟩
              go_wp2_with fail
              go_roundw
              case rel => exact ⟨k + 1, q', by omega, by omega, by go_num, HT.kp' (L := []) (by repeat (first | exact Kp.refl _ _ | apply Kp.drewN | apply Kp.alloc)) (by simp)⟩
              case measure => simp [intOf]; omega
            · have hlo := H.lo
              have B0 := Blk.new wr [.int .i64 kd, .int .i64 xa, .int .i64 xn, .slice bp bs.length bc] 34
              have H1 := H.kp' (L := []) ((Kp.refl [] wr).alloc (.cells #[.int .i64 kd, .int .i64 xa, .int .i64 xn, .slice bp bs.length bc] 34)) (by simp)
              have hkd' : (kd == 1) = false := by simpa using hkd
              have hkd2' : (kd == 2) = false := by simpa using hkd2
              go_wp2_with fail
              refine wp_region_mix [([0, 1, 4, 5, 2, 6], [3], [5, 6]), ([], [7, 8, 9], [])] (by kernel_rfl) (by kernel_rfl) ?_
              refine mix_cons (by repeat (first | exact pick_end | apply (pick_step rfl))) (by repeat (first | exact pick_end | apply (pick_step rfl))) (by repeat (first | exact pick_end | apply (pick_step rfl))) ?_
              repeat (go_big_quiet_step (fail))
              refine wpQuiet_nil ?_
              intro nq
              go_wp2_with fail
              obtain ⟨m, hm⟩ : ∃ m, min xn.toNat q.length = m := ⟨_, rfl⟩
              have hrd := ringdrop (H1.ring.drewN nq) xn
              rw [hm] at hrd
              refine hrd.mono ?_
              clear hrd
              rintro e w2 ⟨rfl, hr2, hk2⟩
              have HM := Lib.hid hm
              clear hm
              have B2 := hk2.blk (B0.drewN _) (by simp; omega)
              have y2 := B2.cell (off := 2) rfl
              go_wp2_with fail
              try simp only [Act.put, List.setIfInBounds_toArray, List.set_cons_zero, List.set_cons_succ]
              refine ⟨?_, ?_⟩
              · unfold AgainAll; repeat (go_big_quiet_step (fail))
                exact again_end
              refine mix_cons' (by repeat (first | exact pick_end | apply (pick_step rfl))) (by repeat (first | exact pick_end | apply (pick_step rfl))) ?_
              refine wpQuiet_nil ?_
              intro nq
              go_wp2_with fail
              obtain ⟨rv, hrv, hri⟩ := H1.ref
              have hrv2 := (hrv.drewN _).kp hk2 (by simp) (fun i hi => by have := hri i hi; simp; omega)
              refine (rdrop_any (hrv2.drewN nq) xn).mono ?_
              rintro e w3 ⟨he, ⟨rv3, hrv3, hri3⟩, hk3⟩
              rw [HM.out] at he hrv3
              subst he
              have hr3 := (hr2.drewN nq).kp hk3 (by simp) (by simp)
              have HT : Both w w3 (rb + 1) rb (rb + 2) room (q.drop m) :=
                ⟨hr3, ⟨rv3, hrv3, fun i hi => hri i (hri3 i hi)⟩, ((show Kp [] w w2 from (H1.kp.drewN _).trans' hk2 (by simp) (by simp; omega)).drewN _).trans' hk3 (by simp) (by simp; omega), hlo⟩
              go_wp2_with fail
              refine mix_nil ?_
              generalize q.drop m = q' at HT
              have hft := HT.ring.fits
              obtain ⟨rvT, hrvT, hriT⟩ := HT.ref
              go_wp2_with fail
              refine (ringlen HT.ring).mono ?_
              rintro e w21 ⟨rfl, n21, rfl⟩
              go_wp2_with fail
              refine (rlen_any (hrvT.drewN _)).mono ?_
              rintro e w22 ⟨rfl, n22, rfl⟩
              go_wp2_with fail
              refine (ringfree (HT.ring.drewN _)).mono ?_
              rintro e w23 ⟨rfl, n23, rfl⟩
              go_wp2_with fail
              refine (rfree_any (hrvT.drewN _)).mono ?_
              rintro e w24 ⟨rfl, n24, rfl⟩
              go_wp2_with fail
              refine (ringlen (HT.ring.drewN _)).mono ?_
              rintro e w25 ⟨rfl, n25, rfl⟩
              go_wp2_with fail
              refine (ringfree (HT.ring.drewN _)).mono ?_
              rintro e w26 ⟨rfl, n26, rfl⟩
              go_wp2_with fail
              go_roundw
              case rel => exact ⟨k + 1, q', by omega, by omega, by go_num, HT.kp' (L := []) (by repeat (first | exact Kp.refl _ _ | apply Kp.drewN | apply Kp.alloc)) (by simp)⟩
              case measure => simp [intOf]; omega
        · have hlo := H.lo
          have hft := H.ring.fits
          obtain ⟨rv, hrv, hri⟩ := H.ref
          have y1 := hrv.blk.cell (off := 1) rfl
          go_wp2_with fail
          refine wp_region_mix [([0, 1, 3, 4, 5, 6], [2], [4, 5, 6]), ([], [7, 8, 9, 10, 11], [])] (by kernel_rfl) (by kernel_rfl) ?_
          refine mix_cons (by repeat (first | exact pick_end | apply (pick_step rfl))) (by repeat (first | exact pick_end | apply (pick_step rfl))) (by repeat (first | exact pick_end | apply (pick_step rfl))) ?_
          repeat (go_big_quiet_step (fail))
          refine wpQuiet_nil ?_
          intro nq
          go_wp2_with fail
          have hpk := ringpeek (H.ring.drewN nq) 0 room
          rw [show peekTo q 0 room = q by unfold peekTo; rw [if_neg (by omega)]; show (q.drop 0).take room = q; rw [List.drop_zero, List.take_of_length_le (by omega)]] at hpk
          refine hpk.mono ?_
          rintro e w2 ⟨v2, rfl, hown2, hk2⟩
          have hrv2 := (hrv.drewN _).kp hk2 (by simp) (by simp)
          have z1 := hrv2.blk.cell (off := 1) rfl
          go_wp2_with fail
          try simp only [Act.put, List.setIfInBounds_toArray, List.set_cons_zero, List.set_cons_succ]
          refine ⟨?_, ?_⟩
          · unfold AgainAll; repeat (go_big_quiet_step (fail))
            exact again_end
          refine mix_cons' (by repeat (first | exact pick_end | apply (pick_step rfl))) (by repeat (first | exact pick_end | apply (pick_step rfl))) ?_
          refine wpQuiet_nil ?_
          intro nq
          go_wp2_with fail
          refine (l13_same _ _ q q _ (hown2.byt.drewN _) (hrv2.byt.drewN _)).mono ?_
          rw [show sameTo q q = true by simp [sameTo]]
          rintro e w3 ⟨rfl, n3, rfl⟩
          go_wp2_with fail
          refine (known_any _).mono ?_
          rintro e w4 ⟨rfl, hk4⟩
          go_wp2_with fail
          refine mix_nil ?_
          go_wp2_with fail
          go_ret
          exact ⟨rfl, H.kp.trans (((by repeat (first | exact Kp.refl _ _ | apply Kp.drewN | apply Kp.alloc)) : Kp [] _ _).trans (hk2.trans (((by repeat (first | exact Kp.refl _ _ | apply Kp.drewN | apply Kp.alloc)) : Kp [] _ _).trans hk4)))⟩
      · have hlo := H.lo
        have hft := H.ring.fits
        obtain ⟨rv, hrv, hri⟩ := H.ref
        have y1 := hrv.blk.cell (off := 1) rfl
        go_wp2_with fail
        refine wp_region_mix [([0, 1, 3, 4, 5, 6], [2], [4, 5, 6]), ([], [7, 8, 9, 10, 11], [])] (by kernel_rfl) (by kernel_rfl) ?_
        refine mix_cons (by repeat (first | exact pick_end | apply (pick_step rfl))) (by repeat (first | exact pick_end | apply (pick_step rfl))) (by repeat (first | exact pick_end | apply (pick_step rfl))) ?_
        repeat (go_big_quiet_step (fail))
        refine wpQuiet_nil ?_
        intro nq
        go_wp2_with fail
        have hpk := ringpeek (H.ring.drewN nq) 0 room
        rw [show peekTo q 0 room = q by unfold peekTo; rw [if_neg (by omega)]; show (q.drop 0).take room = q; rw [List.drop_zero, List.take_of_length_le (by omega)]] at hpk
        refine hpk.mono ?_
        rintro e w2 ⟨v2, rfl, hown2, hk2⟩
        have hrv2 := (hrv.drewN _).kp hk2 (by simp) (by simp)
        have z1 := hrv2.blk.cell (off := 1) rfl
        go_wp2_with fail
        try simp only [Act.put, List.setIfInBounds_toArray, List.set_cons_zero, List.set_cons_succ]
        refine ⟨?_, ?_⟩
        · unfold AgainAll; repeat (go_big_quiet_step (fail))
          exact again_end
        refine mix_cons' (by repeat (first | exact pick_end | apply (pick_step rfl))) (by repeat (first | exact pick_end | apply (pick_step rfl))) ?_
        refine wpQuiet_nil ?_
        intro nq
        go_wp2_with fail
        refine (l13_same _ _ q q _ (hown2.byt.drewN _) (hrv2.byt.drewN _)).mono ?_
        rw [show sameTo q q = true by simp [sameTo]]
        rintro e w3 ⟨rfl, n3, rfl⟩
        go_wp2_with fail
        refine (known_any _).mono ?_
        rintro e w4 ⟨rfl, hk4⟩
        go_wp2_with fail
        refine mix_nil ?_
        go_wp2_with fail
        go_ret
        exact ⟨rfl, H.kp.trans (((by repeat (first | exact Kp.refl _ _ | apply Kp.drewN | apply Kp.alloc)) : Kp [] _ _).trans (hk2.trans (((by repeat (first | exact Kp.refl _ _ | apply Kp.drewN | apply Kp.alloc)) : Kp [] _ _).trans hk4)))⟩

set_option maxRecDepth 10000 in
set_option maxHeartbeats 800000 in
theorem plays_none (room : Int) (p : Option Addr) (n c : Nat) (D : Nat → StepD) (w : World) (hr : ¬ (1 ≤ room ∧ room ≤ 1048560)) (hS : StepsAt w p n D) (hn : n ≤ 9223372036854775807)  :
    Calls Try.prog 3 #[.int .i64 room, .slice p n c] w fun e w' => e = .returned (.bool true) ∧ Kp [] w w' := by
  have HS := Lib.hid hS
  have HR := Lib.hid hr
  clear hS hr
  go_enter Try.func3, Try.ntmps3
  go_wp2_with (go_at_call 8; refine (heavy_any p n c D w HS.out hn).mono ?_; rintro e w1 ⟨h, rfl, hlen, hk1⟩)
  · go_wp2_with (go_at_call 9; refine (known_any _).mono ?_; rintro e w2 ⟨rfl, hk2⟩)
    go_ret
    exact ⟨rfl, hk1.trans hk2⟩
  · clear hlen
    go_wp2_with (go_at_call 10; refine (new_any room _).mono ?_; rintro e w2 ⟨hk2, ⟨_, rfl⟩ | ⟨hz, _⟩⟩; rotate_left; exact absurd hz HR.out)
    go_wp2_with (go_at_call 11; refine (rnew_any room _).mono ?_; rintro e w3 ⟨hk3, ⟨_, rfl⟩ | ⟨hz, _⟩⟩; rotate_left; exact absurd hz HR.out)
    go_wp2_with (go_at_call 9; refine (known_any _).mono ?_; rintro e w4 ⟨rfl, hk4⟩)
    go_ret
    exact ⟨rfl, ((hk1.trans hk2).trans hk3).trans hk4⟩

theorem plays_walk (room : Int) (p : Option Addr) (n c : Nat) (D : Nat → StepD) (w : World) (hS : StepsAt w p n D) (hn : n ≤ 9223372036854775807)  :
    Calls Try.prog 3 #[.int .i64 room, .slice p n c] w fun e w' => e = .returned (.bool true) ∧ Kp [] w w' := by
  by_cases hr : 1 ≤ room ∧ room ≤ 1048560
  · obtain ⟨r, rfl⟩ := Int.eq_ofNat_of_zero_le (show 0 ≤ room by omega)
    exact plays_some r p n c D w (by omega) (by omega) hS hn
  · exact plays_none room p n c D w hr hS hn

end Go.Proofs.Ytodedpmedkgkmaa

/-
  wharflaw13.PiecesPlay: its walk.
-/
import Derived.Test.YtodedpmedkgkmaaRefPut
import Derived.Test.YtodedpmedkgkmaaPlays
set_option linter.unusedVariables false
set_option linter.unusedSimpArgs false
namespace Go.Proofs.Ytodedpmedkgkmaa
open Go.RowKit

/-- a piece that came in -/
structure PieceD where
  a : Int
  v : Value
  b : List UInt8

def PiecesAt (w : World) (p : Option Addr) (n : Nat) (D : Nat → PieceD) : Prop :=
  ∀ i, i < n → ∃ g o, p = some ⟨g, o, none⟩ ∧ w.cell? ⟨g, o + i * 2, none⟩ = some (.int .i64 (D i).a) ∧ w.cell? ⟨g, o + i * 2 + 1, none⟩ = some (D i).v ∧ Byt w (D i).v (D i).b ∧ (D i).b.length ≤ 140737488355328

/-- both hold the same: in memory -/
structure PpAt (w0 w : World) (rs : List Rn) (L : List Bp) : Prop where
  kp : Kp [] w0 w
  both : ∃ cur p v, PcAt w w0.heap.size 0 51 cur p rs ∧ RefPc w (w0.heap.size + 1) v L ∧ (∀ i, i ∈ obp p → w0.heap.size + 1 < i ∧ i < w.heap.size) ∧ (∀ i, i ∈ obs rs → w0.heap.size + 1 < i) ∧ (∀ i, i ∈ ob v → w0.heap.size + 1 < i) ∧ (∀ i, i ∈ ob v → i ∉ obp p ∧ i ∉ obs rs)
  same : Same (rs.map Rn.bn) L

theorem put_same {l : List Bn} {L : List Bp} (h : Same l L) {ahead : Int} {bs : List UInt8} (ha : ¬ (ahead < -1048560 ∨ 1048560 < ahead)) {out : List UInt8} {L' : List Bp} (hr : RefOk (fun x => (getL L x).or (brings ahead bs x)) out L') :
    (putTo l ahead bs).1 = out ∧ Same (putTo l ahead bs).2 L' := by
  have hp := putTo_ok h.runs ahead bs ha
  rw [show (fun i => (gets l i).or (brings ahead bs i)) = fun x => (getL L x).or (brings ahead bs x) from funext fun i => by rw [h.eq]] at hp
  exact hr.same hp

theorem refput_any {w : World} {b : Nat} {v : Value} {L : List Bp} {l : List Bn} (h : RefPc w b v L) (hs : Same l L) (ahead : Int) (q0 : Option Addr) (c0 : Nat) (bs : List UInt8) (hb : Byt w (.slice q0 bs.length c0) bs) (hbl : bs.length ≤ 6000) :
    Calls Try.prog 28 #[.pointer (some ⟨b, 0, none⟩), .int .i64 ahead, .slice q0 bs.length c0] w (RefPutDone w b v fun out L' => (putTo l ahead bs).1 = out ∧ Same (putTo l ahead bs).2 L') := by
  by_cases ha : ahead < -1048560 ∨ 1048560 < ahead
  · refine (refput_out h ahead _ ha).mono ?_
    rintro e w' ⟨vo, v', out, L', h1, h2, h3, ⟨rfl, rfl⟩, h5⟩
    exact ⟨vo, v', [], L', h1, h2, h3, by unfold putTo; rw [if_pos ha]; exact ⟨rfl, hs⟩, h5⟩
  · refine (refput_in h ahead q0 c0 bs hb hbl (by omega) (by omega)).mono ?_
    rintro e w' ⟨vo, v', out, L', h1, h2, h3, h4, h5⟩
    exact ⟨vo, v', out, L', h1, h2, h3, put_same hs ha h4, h5⟩

theorem heldTo_eq (l : List Bn) : heldTo l = heldTo' l := by
  induction l with
  | nil => rfl
  | cons r l ih => simp only [heldTo, heldTo', ih]

/-- where nothing is held, the row's block does not count -/
theorem PcAt.kpx {w w' : World} {b off : Nat} {T : TypeId} {cur : List Value} {p : Option Addr} {rs : List Rn} {L : List Nat} (h : PcAt w b off T cur p rs) (k : Kp L w w') (h1 : b ∉ L) (h2 : rs = [] ∨ ∀ i, i ∈ obp p → i ∉ L) (h3 : ∀ i, i ∈ obs rs → i ∉ L) : PcAt w' b off T cur p rs := by
  rcases h2 with rfl | h2
  · exact ⟨⟨k.blk h.blk h1, h.at_, .inl rfl, by simp, by simp [obs], by simp [obs]⟩, h.runs⟩
  · exact ⟨h.toPcMem.kp k h1 h2 h3, h.runs⟩

/-- bytes lie in no row of runs -/
theorem PcAt.apart {w : World} {b off : Nat} {T : TypeId} {cur : List Value} {p : Option Addr} {rs : List Rn} (h : PcAt w b off T cur p rs) {v : Value} {l : List UInt8} {base : Nat} (hv : OwnB w base 5 v l) : rs = [] ∨ ∀ i, i ∈ obp p → i ∉ ob v := by
  rcases h.row with h0 | ⟨g, pre, post, rfl, hB, hg⟩
  · exact .inl h0
  · refine .inr fun i hi hm => ?_
    simp [obp] at hi
    subst hi
    exact blk_ne hv hB (by decide) hm

/-- what comes out is not long -/
theorem putTo_len {l : List Bn} (h : RunsOk l) (ahead : Int) (bs : List UInt8) : (putTo l ahead bs).1.length ≤ 1048560 := by
  by_cases ha : ahead < -1048560 ∨ 1048560 < ahead
  · unfold putTo
    rw [if_pos ha]
    simp
  · refine Nat.le_of_not_lt fun hc => ?_
    have h1 := (putTo_ok h ahead bs ha).out 1048560 hc
    rw [gets_none (fun r hr => .inr (h.top r hr)), List.getElem?_eq_getElem hc] at h1
    simp [brings] at h1

/-- the first ones agree -/
theorem reffirst_same {w : World} {b : Nat} {v : Value} {L : List Bp} {l : List Bn} (h : RefPc w b v L) (hs : Same l L) :
    Calls Try.prog 31 #[.pointer (some ⟨b, 0, none⟩)] w fun e w' => e = .returned (.tuple #[.int .i64 (firstTo l).1, .int .i64 (firstTo l).2]) ∧ Kp [] w w' := by
  refine (reffirst_any h).mono ?_
  rintro e w' ⟨h1, hk⟩
  refine ⟨?_, hk⟩
  cases l with
  | nil =>
    have hL : L = [] := by rw [hs.flat]; rfl
    subst hL
    rcases h1 with ⟨_, rfl⟩ | ⟨n, ⟨hn0, hn, _⟩, rfl⟩
    · rfl
    · simp at hn; omega
  | cons r l =>
    have h2 := hs.held
    have h3 := hs.runs.pos r (by simp)
    simp only [heldTo'] at h2
    rcases h1 with ⟨rfl, _⟩ | ⟨n, hn, rfl⟩
    · simp at h2; omega
    · obtain ⟨e1, e2⟩ := hs.first hn
      rw [e1, e2]
      rfl

set_option maxRecDepth 10000 in
set_option maxHeartbeats 3200000 in
theorem pp_walk (p : Option Addr) (n c : Nat) (D : Nat → PieceD) (w : World) (hS : PiecesAt w p n D) (hn : n ≤ 9223372036854775807) :
    Calls Try.prog 7 #[.slice p n c] w fun e w' => e = .returned (.bool true) ∧ Kp [] w w' := by
  have HS := Lib.hid hS
  clear hS
  go_enter Try.func7, Try.ntmps7
  go_wp2
  go_loopw [3, 4] (fun s i wr => ∃ (k m : Nat), k ≤ n ∧ k ≤ 200 ∧ m ≤ k * 140737488355328 ∧ i = .int .i64 k ∧ s = .int .i64 m ∧ (∀ i, i < k → (D i).b.length ≤ m) ∧ wr = w) (fun _ i _ => 200 - (intOf i).toNat)
  case atStart => exact ⟨0, 0, Nat.zero_le _, by omega, by omega, rfl, rfl, by omega, rfl⟩
  case round =>
    obtain ⟨k, m, hk, hk2, hm, rfl, rfl, hall, rfl⟩ := hrel
    have HA := Lib.hid hall
    clear hall
    by_cases hlt : k < n
    · by_cases h200 : k < 200
      · obtain ⟨g, o, rfl, _, h4, hb, h6⟩ := HS.out k hlt
        obtain ⟨bp, bc, hv⟩ := hb.shape
        rw [hv] at h4
        clear hv hb
        generalize hz : (D k).b.length = z at h4 h6
        have HZ := Lib.hid hz
        clear hz
        go_wp2
        go_roundw
        case rel => exact ⟨k + 1, m + z, by omega, by omega, by omega, by go_num, by go_num, fun i hi => (Nat.lt_or_ge i k).elim (fun h => by have := HA.out i h; omega) (fun h => by rw [show i = k by omega, HZ.out]; omega), by first | rfl | trivial⟩
        case measure => simp [intOf]; omega
      · by_cases hbig : 6000 < m
        · go_wp2_with (go_at_call 9; refine (known_any _).mono ?_; rintro e w2 ⟨rfl, hk2⟩)
          go_ret
          exact ⟨rfl, hk2⟩
        · have HL := Lib.hid (show ∀ i, i < n → i < 200 → (D i).b.length ≤ 6000 from fun i h1 h2 => Nat.le_trans (HA.out i (by omega)) (by omega))
          obtain ⟨w0, hw0⟩ : ∃ w0, w0 = wr := ⟨_, rfl⟩
          subst hw0
          have hP0 := (pc_new w0).kp (L := []) ((Kp.refl _ _).alloc (.cells #[.slice none 0 0] 64)) (by simp) (by simp) (by simp)
          have hR0 : RefPc ((w0.alloc (.cells #[.slice none 0 0] 51)).alloc (.cells #[.slice none 0 0] 64)) (w0.heap.size + 1) (.slice none 0 0) [] := by
            have := Blk.new (w0.alloc (.cells #[.slice none 0 0] 51)) [.slice none 0 0] 64
            exact ⟨by simpa using this, RowP.nil _ _, by simp [ob, Value.ownBlock], List.Pairwise.nil, by simp⟩
          have hinv : PpAt w0 ((w0.alloc (.cells #[.slice none 0 0] 51)).alloc (.cells #[.slice none 0 0] 64)) [] [] :=
            ⟨((Kp.refl _ _).alloc _).alloc _, ⟨_, _, _, hP0, hR0, by simp [obp], by simp [obs], by simp [ob, Value.ownBlock], by simp [ob, Value.ownBlock]⟩, Same.nil⟩
          have HI := Lib.hid hinv
          clear hP0 hR0 hinv HA hm
          go_wp2
          go_loopw [7] (fun i wr => ∃ (k : Nat) (rs : List Rn) (L : List Bp), k ≤ n ∧ k ≤ 200 ∧ i = .int .i64 k ∧ PpAt w0 wr rs L) (fun i _ => 200 - (intOf i).toNat)
          case atStart => exact ⟨0, [], [], Nat.zero_le _, by omega, rfl, HI.out⟩
          case round =>
            obtain ⟨k3, rs, L, hk3, hk4, rfl, H⟩ := hrel
            by_cases hlt3 : k3 < n
            · by_cases h203 : k3 < 200
              · obtain ⟨g, o, rfl, e1, e2, hb, _⟩ := HS.out k3 hlt3
                have hbl := HL.out k3 hlt3 h203
                generalize D k3 = d at e1 e2 hb hbl
                obtain ⟨da, dv, bs⟩ := d
                obtain ⟨bp, bc, hv⟩ := hb.shape
                simp only [] at e1 e2 hb hbl hv
                subst hv
                have HB := Lib.hid (show ∀ w', Kp [] w0 w' → Byt w' (.slice bp bs.length bc) bs from fun w' k' => hb.kp k' (by simp))
                have y1 := H.kp.cell e1 (by simp)
                have y2 := H.kp.cell e2 (by simp)
                have E1 := Lib.hid e1
                have E2 := Lib.hid e2
                clear e1 e2 hb
                go_wp2_with fail
                refine (l13_roomy _ bs _ (HB.out _ H.kp) (by omega)).mono ?_
                rintro e w2 ⟨v2, rfl, hown2, hk2⟩
                obtain ⟨p2, c2, rfl, _, hc2⟩ := hown2.shape
                simp only [List.length_append, List.length_cons, List.length_nil, Nat.zero_add] at hown2 hc2 ⊢
                have kk2 : Kp [] w0 w2 := H.kp.trans hk2
                have hlo2 : ∀ i, i ∈ obp p2 → wr.heap.size ≤ i ∧ i < w2.heap.size := fun i hi => hown2.lt i (by rw [ob_slice]; exact hi)
                have z1 := kk2.cell E1.out (by simp)
                have z2 := kk2.cell E2.out (by simp)
                obtain ⟨cur, pp, rv, hPc, hRf, hpp, hobs, hov, hdis⟩ := H.both
                have hSame := H.same
                have hs0 := H.kp.size
                have hs2 := hk2.size
                clear y1 y2
                go_wp2_with fail
                refine wp_region_mix [([0, 1, 2, 6, 7, 8, 3, 9, 4, 10, 5, 11, 12, 13], [14, 15], [])] (by kernel_rfl) (by kernel_rfl) ?_
                refine mix_cons' (by repeat (first | exact pick_end | apply (pick_step rfl))) (by repeat (first | exact pick_end | apply (pick_step rfl))) ?_
                repeat (go_big_quiet_step (fail))
                refine wpQuiet_nil ?_
                intro nq
                go_wp2_with fail
                obtain ⟨og, hog⟩ : ∃ og, putTo (rs.map Rn.bn) da bs = og := ⟨_, rfl⟩
                have hPut := put_next (hPc.kp (L := []) (hk2.drewN nq) (by simp) (by simp) (by simp)) (by decide) da _ bs ((own_head hown2).byt.drewN nq) _ rfl og hog
                have HOG := Lib.hid hog
                clear hog
                refine hPut.mono ?_
                clear hPut
                rintro e w3 ⟨v3, sv3, p3, rs3, rfl, hP3, hbn3, hown3, hk3, hpp3, hv3, hvo3, hbv3⟩
                obtain ⟨q3, c3, rfl, _, hc3⟩ := hown3.shape
                rw [ob_slice] at hvo3 hv3 hbv3
                simp only [World.heap_drewN] at hpp3 hvo3
                have hs3 := hk3.size
                simp only [World.heap_drewN] at hs3
                have hbR := hRf.blk.lt
                have hown2' := (hown2.drewN nq).kp hk3 (by
                  rw [ob_slice]
                  intro i hi hm
                  have h1 := hlo2 i hi
                  rcases List.mem_cons.1 hm with rfl | hm
                  · omega
                  · have := hpp i hm; omega)
                have hRf3 := (hRf.kp (K := []) (hk2.drewN nq) (by simp) (by simp)).kp hk3 (fun hm => by
                    rcases List.mem_cons.1 hm with h1 | h1
                    · omega
                    · have := hpp _ h1; omega)
                  (fun i hi hm => by
                    rcases List.mem_cons.1 hm with h1 | h1
                    · have := hov i hi; omega
                    · exact (hdis i hi).1 h1)
                have kk3 : Kp [] w0 w3 := (kk2.drewN _).trans' hk3 (by simp) (fun i hi => .inr (by
                  rcases List.mem_cons.1 hi with rfl | hi
                  · omega
                  · have := hpp i hi; omega))
                have x1 := kk3.cell E1.out (by simp)
                have x2 := kk3.cell E2.out (by simp)
                clear z1 z2
                go_wp2_with fail
                refine mix_nil ?_
                go_wp2_with fail
                refine wp_region_mix [([0, 1, 2, 3, 7, 8, 4, 9, 5, 10, 6, 11], [12, 13, 14, 15], []), ([16, 17, 18, 19, 20, 21], [22, 23, 24, 25], []), ([26, 28], [27, 29, 30, 31], [])] (by kernel_rfl) (by kernel_rfl) ?_
                refine mix_cons' (by repeat (first | exact pick_end | apply (pick_step rfl))) (by repeat (first | exact pick_end | apply (pick_step rfl))) ?_
                repeat (go_big_quiet_step (fail))
                refine wpQuiet_nil ?_
                intro nq
                go_wp2_with fail
                have hRP := refput_any (hRf3.kp (K := []) ((Kp.refl _ _).drewN nq) (by simp) (by simp)) hSame da bp bc bs ((HB.out _ kk3).drewN _) hbl
                rw [HOG.out] at hRP
                refine hRP.mono ?_
                clear hRP
                rintro e w4 ⟨vo4, v4, out4, L4, rfl, hown4, hRf4, ⟨hoe, hse⟩, hk4, hv4, hvo4⟩
                subst hoe
                obtain ⟨q4, c4, rfl, _, hc4⟩ := hown4.shape
                rw [← hbn3] at hse
                simp only [World.heap_drewN] at hv4
                have hs4 := hk4.size
                simp only [World.heap_drewN] at hs4
                have hown3' := (hown3.drewN nq).kp hk4 (by
                  rw [ob_slice]
                  intro i hi hm
                  simp at hm
                  subst hm
                  rcases hvo3 _ (.inl hi) with h1 | h1
                  · have := hobs _ h1; omega
                  · omega)
                have hown2'' := (hown2'.drewN nq).kp hk4 (by
                  rw [ob_slice]
                  intro i hi hm
                  simp at hm
                  subst hm
                  have h1 := hlo2 _ hi
                  omega)
                have hp3lo : ∀ i, i ∈ obp p3 → w0.heap.size + 1 < i ∧ i < w3.heap.size ∧ i ∉ obp p2 := by
                  intro i hi
                  rcases hpp3 i hi with h1 | h1
                  · have h5 := hpp i h1
                    exact ⟨h5.1, by omega, fun hm => by have := hlo2 i hm; omega⟩
                  · exact ⟨by omega, h1.2, fun hm => by have := hlo2 i hm; omega⟩
                have hr3lo : ∀ i, i ∈ obs rs3 → w0.heap.size + 1 < i ∧ i < w3.heap.size ∧ i ∉ obp p2 := by
                  intro i hi
                  have hu : i < w3.heap.size := by
                    obtain ⟨r, hr, hir⟩ := mem_obs.1 hi
                    exact ((hP3.ok r hr).own.lt _ hir).2
                  rcases hvo3 i (.inr hi) with h1 | h1
                  · refine ⟨hobs i h1, hu, fun hm => ?_⟩
                    obtain ⟨r, hr, hir⟩ := mem_obs.1 h1
                    have := ((hPc.ok r hr).own.lt _ hir).2
                    have := hlo2 i hm
                    omega
                  · exact ⟨by omega, hu, fun hm => by have := hlo2 i hm; omega⟩
                have hP4 := (hP3.kp (L := []) ((Kp.refl _ _).drewN nq) (by simp) (by simp) (by simp)).kp hk4 (by simp) (fun i hi hm => by have := hp3lo i hi; simp at hm; omega) (fun i hi hm => by have := hr3lo i hi; simp at hm; omega)
                have kk4 : Kp [] w0 w4 := (kk3.drewN _).trans' hk4 (by simp) (fun i hi => .inr (by simp at hi; omega))
                have hheld : heldTo (rs3.map Rn.bn) = L4.length := by rw [hse.held, heldTo_eq]
                have u1 := kk4.cell E1.out (by simp)
                have u2 := kk4.cell E2.out (by simp)
                clear x1 x2
                go_wp2_with fail
                refine (l13_same _ _ og.1 og.1 _ hown3'.byt hown4.byt).mono ?_
                rw [show sameTo og.1 og.1 = true by simp [sameTo]]
                rintro e w5 ⟨rfl, n5, rfl⟩
                go_wp2_with fail
                refine mix_cons' (by repeat (first | exact pick_end | apply (pick_step rfl))) (by repeat (first | exact pick_end | apply (pick_step rfl))) ?_
                repeat (go_big_quiet_step (fail))
                refine wpQuiet_nil ?_
                intro nq
                go_wp2_with fail
                refine (l13_stands _ _ (bs ++ [171]) bs _ (hown2''.byt.drewN _) ((HB.out _ kk4).drewN _) (by omega)).mono ?_
                rw [show sameTo (bs ++ [171]) (bs ++ [171]) = true by simp [sameTo]]
                rintro e w5' ⟨rfl, n5', rfl⟩
                go_wp2_with fail
                refine mix_cons' (by repeat (first | exact pick_end | apply (pick_step rfl))) (by repeat (first | exact pick_end | apply (pick_step rfl))) ?_
                repeat (go_big_quiet_step (fail))
                refine wpQuiet_nil ?_
                intro nq
                go_wp2_with fail
                refine (held_any (hP4.kp (L := []) (by repeat (first | exact Kp.refl _ _ | apply Kp.drewN | apply Kp.alloc)) (by simp) (by simp) (by simp))).mono ?_
                rw [hheld]
                rintro e w6 ⟨rfl, hk6⟩
                have k46 : Kp [] w4 w6 := ((by repeat (first | exact Kp.refl _ _ | apply Kp.drewN | apply Kp.alloc)) : Kp _ _ _).trans hk6
                clear hk6
                go_wp2_with fail
                refine (refheld_any (hRf4.kp k46 (by simp) (by simp))).mono ?_
                rintro e w7 ⟨rfl, hk7⟩
                have k47 := k46.trans hk7
                clear hk7
                go_wp2_with fail
                refine mix_nil ?_
                go_wp2_with fail
                refine (l13_spoil _ (bs ++ [171]) _ ((hown2''.kp k47 (by simp)).mono (Nat.zero_le _)) (by simp; omega)).mono ?_
                rintro e w8 ⟨rfl, hk8⟩
                rw [ob_slice] at hk8
                have hv3lo : ∀ i, i ∈ obp q3 → w0.heap.size + 1 < i ∧ i ∉ obp p2 := by
                  intro i hi
                  rcases hvo3 i (.inl hi) with h1 | h1
                  · refine ⟨hobs i h1, fun hm => ?_⟩
                    obtain ⟨r, hr, hir⟩ := mem_obs.1 h1
                    have := ((hPc.ok r hr).own.lt _ hir).2
                    have := hlo2 i hm
                    omega
                  · exact ⟨by omega, fun hm => by have := hlo2 i hm; omega⟩
                have hP8 := (hP4.kp k47 (by simp) (by simp) (by simp)).kp hk8 (fun hm => by have := hlo2 _ hm; omega) (fun i hi => (hp3lo i hi).2.2) (fun i hi => (hr3lo i hi).2.2)
                have hRf8 := (hRf4.kp k47 (by simp) (by simp)).kp hk8 (fun hm => by have := hlo2 _ hm; omega) (fun i hi hm => row_ne hown2'' hRf4.row (by decide) i (by rw [ob_slice]; exact hm) hi)
                have hown8 := (hown3'.kp k47 (by simp)).kp hk8 (fun i hi hm => by rw [ob_slice] at hi; exact (hv3lo i hi).2 hm)
                have hol := putTo_len hSame.runs da bs
                rw [HOG.out] at hol
                go_wp2_with fail
                refine (l13_spoil _ og.1 _ hown8 (by omega)).mono ?_
                rintro e w9 ⟨rfl, hk9⟩
                rw [ob_slice] at hk9
                have hP9 := hP8.kpx hk9 (fun hm => by have := hv3lo _ hm; omega) (by have h5 := hP8.apart hown8; rwa [ob_slice] at h5) (fun i hi hm => hv3 i hm hi)
                have hRf9 := hRf8.kp hk9 (fun hm => by have := hv3lo _ hm; omega) (fun i hi hm => row_ne hown8 hRf8.row (by decide) i (by rw [ob_slice]; exact hm) hi)
                have kk9 : Kp [] w0 w9 := (show Kp [] w0 w8 from (kk4.trans k47).trans' hk8 (by simp) (fun i hi => .inr (by have := hlo2 i hi; omega))).trans' hk9 (by simp) (fun i hi => .inr (by have := hv3lo i hi; omega))
                have hs9 : w4.heap.size ≤ w9.heap.size := Nat.le_trans k47.size (Nat.le_trans hk8.size hk9.size)
                go_wp2_with fail
                refine (first_any hP9).mono ?_
                rintro e w10 ⟨rfl, hk10⟩
                have hP10 := hP9.kp hk10 (by simp) (by simp) (by simp)
                have hRf10 := hRf9.kp hk10 (by simp) (by simp)
                generalize hf : firstTo (rs3.map Rn.bn) = ft
                go_wp2_with fail
                refine (reffirst_same hRf10 hse).mono ?_
                rintro e w11 ⟨rfl, hk11⟩
                rw [hf]
                have hs11 := Nat.le_trans hk10.size hk11.size
                have HN := Lib.hid (show PpAt w0 w11 rs3 L4 from ⟨(kk9.trans hk10).trans hk11, ⟨_, p3, v4, hP10.kp hk11 (by simp) (by simp) (by simp), hRf10.kp hk11 (by simp) (by simp),
                  fun i hi => ⟨(hp3lo i hi).1, by have := (hp3lo i hi).2.1; omega⟩, fun i hi => (hr3lo i hi).1,
                  fun i hi => by
                    rcases hv4 i hi with h1 | h1
                    · exact hov i h1
                    · omega,
                  fun i hi => by
                    rcases hv4 i hi with h1 | h1
                    · have h2 := hdis i h1
                      have h3 := hRf.row.lt i h1
                      refine ⟨fun hm => ?_, fun hm => ?_⟩
                      · rcases hpp3 i hm with h4 | h4
                        · exact h2.1 h4
                        · omega
                      · rcases hvo3 i (.inr hm) with h4 | h4
                        · exact h2.2 h4
                        · omega
                    · refine ⟨fun hm => ?_, fun hm => ?_⟩
                      · have := hp3lo i hm; omega
                      · have := hr3lo i hm; omega⟩, hse⟩)
                clear hP9 hP8 hP4 hP3 hPc hRf hRf3 hRf4 hRf8 hRf9 hRf10 hP10 hSame hse hdis hobs hov hv3 hvo3 hpp3 hv4 hvo4 hbv3 hp3lo hr3lo hv3lo hpp hlo2
                go_wp2_with fail
                go_roundw
                case rel => exact ⟨k3 + 1, rs3, L4, by omega, by omega, by go_num, HN.out⟩
                case measure => simp [intOf] <;> omega
              · go_wp2_with (go_at_call 9; refine (known_any _).mono ?_; rintro e w2 ⟨rfl, hk2⟩)
                go_ret
                exact ⟨rfl, H.kp.trans hk2⟩
            · go_wp2_with (go_at_call 9; refine (known_any _).mono ?_; rintro e w2 ⟨rfl, hk2⟩)
              go_ret
              exact ⟨rfl, H.kp.trans hk2⟩
    · by_cases hbig : 6000 < m
      · go_wp2_with (go_at_call 9; refine (known_any _).mono ?_; rintro e w2 ⟨rfl, hk2⟩)
        go_ret
        exact ⟨rfl, hk2⟩
      · have HL := Lib.hid (show ∀ i, i < n → i < 200 → (D i).b.length ≤ 6000 from fun i h1 h2 => Nat.le_trans (HA.out i (by omega)) (by omega))
        obtain ⟨w0, hw0⟩ : ∃ w0, w0 = wr := ⟨_, rfl⟩
        subst hw0
        have hP0 := (pc_new w0).kp (L := []) ((Kp.refl _ _).alloc (.cells #[.slice none 0 0] 64)) (by simp) (by simp) (by simp)
        have hR0 : RefPc ((w0.alloc (.cells #[.slice none 0 0] 51)).alloc (.cells #[.slice none 0 0] 64)) (w0.heap.size + 1) (.slice none 0 0) [] := by
          have := Blk.new (w0.alloc (.cells #[.slice none 0 0] 51)) [.slice none 0 0] 64
          exact ⟨by simpa using this, RowP.nil _ _, by simp [ob, Value.ownBlock], List.Pairwise.nil, by simp⟩
        have hinv : PpAt w0 ((w0.alloc (.cells #[.slice none 0 0] 51)).alloc (.cells #[.slice none 0 0] 64)) [] [] :=
          ⟨((Kp.refl _ _).alloc _).alloc _, ⟨_, _, _, hP0, hR0, by simp [obp], by simp [obs], by simp [ob, Value.ownBlock], by simp [ob, Value.ownBlock]⟩, Same.nil⟩
        have HI := Lib.hid hinv
        clear hP0 hR0 hinv HA hm
        go_wp2
        go_loopw [7] (fun i wr => ∃ (k : Nat) (rs : List Rn) (L : List Bp), k ≤ n ∧ k ≤ 200 ∧ i = .int .i64 k ∧ PpAt w0 wr rs L) (fun i _ => 200 - (intOf i).toNat)
        case atStart => exact ⟨0, [], [], Nat.zero_le _, by omega, rfl, HI.out⟩
        case round =>
          obtain ⟨k3, rs, L, hk3, hk4, rfl, H⟩ := hrel
          by_cases hlt3 : k3 < n
          · by_cases h203 : k3 < 200
            · obtain ⟨g, o, rfl, e1, e2, hb, _⟩ := HS.out k3 hlt3
              have hbl := HL.out k3 hlt3 h203
              generalize D k3 = d at e1 e2 hb hbl
              obtain ⟨da, dv, bs⟩ := d
              obtain ⟨bp, bc, hv⟩ := hb.shape
              simp only [] at e1 e2 hb hbl hv
              subst hv
              have HB := Lib.hid (show ∀ w', Kp [] w0 w' → Byt w' (.slice bp bs.length bc) bs from fun w' k' => hb.kp k' (by simp))
              have y1 := H.kp.cell e1 (by simp)
              have y2 := H.kp.cell e2 (by simp)
              have E1 := Lib.hid e1
              have E2 := Lib.hid e2
              clear e1 e2 hb
              go_wp2_with fail
              refine (l13_roomy _ bs _ (HB.out _ H.kp) (by omega)).mono ?_
              rintro e w2 ⟨v2, rfl, hown2, hk2⟩
              obtain ⟨p2, c2, rfl, _, hc2⟩ := hown2.shape
              simp only [List.length_append, List.length_cons, List.length_nil, Nat.zero_add] at hown2 hc2 ⊢
              have kk2 : Kp [] w0 w2 := H.kp.trans hk2
              have hlo2 : ∀ i, i ∈ obp p2 → wr.heap.size ≤ i ∧ i < w2.heap.size := fun i hi => hown2.lt i (by rw [ob_slice]; exact hi)
              have z1 := kk2.cell E1.out (by simp)
              have z2 := kk2.cell E2.out (by simp)
              obtain ⟨cur, pp, rv, hPc, hRf, hpp, hobs, hov, hdis⟩ := H.both
              have hSame := H.same
              have hs0 := H.kp.size
              have hs2 := hk2.size
              clear y1 y2
              go_wp2_with fail
              refine wp_region_mix [([0, 1, 2, 6, 7, 8, 3, 9, 4, 10, 5, 11, 12, 13], [14, 15], [])] (by kernel_rfl) (by kernel_rfl) ?_
              refine mix_cons' (by repeat (first | exact pick_end | apply (pick_step rfl))) (by repeat (first | exact pick_end | apply (pick_step rfl))) ?_
              repeat (go_big_quiet_step (fail))
              refine wpQuiet_nil ?_
              intro nq
              go_wp2_with fail
              obtain ⟨og, hog⟩ : ∃ og, putTo (rs.map Rn.bn) da bs = og := ⟨_, rfl⟩
              have hPut := put_next (hPc.kp (L := []) (hk2.drewN nq) (by simp) (by simp) (by simp)) (by decide) da _ bs ((own_head hown2).byt.drewN nq) _ rfl og hog
              have HOG := Lib.hid hog
              clear hog
              refine hPut.mono ?_
              clear hPut
              rintro e w3 ⟨v3, sv3, p3, rs3, rfl, hP3, hbn3, hown3, hk3, hpp3, hv3, hvo3, hbv3⟩
              obtain ⟨q3, c3, rfl, _, hc3⟩ := hown3.shape
              rw [ob_slice] at hvo3 hv3 hbv3
              simp only [World.heap_drewN] at hpp3 hvo3
              have hs3 := hk3.size
              simp only [World.heap_drewN] at hs3
              have hbR := hRf.blk.lt
              have hown2' := (hown2.drewN nq).kp hk3 (by
                rw [ob_slice]
                intro i hi hm
                have h1 := hlo2 i hi
                rcases List.mem_cons.1 hm with rfl | hm
                · omega
                · have := hpp i hm; omega)
              have hRf3 := (hRf.kp (K := []) (hk2.drewN nq) (by simp) (by simp)).kp hk3 (fun hm => by
                  rcases List.mem_cons.1 hm with h1 | h1
                  · omega
                  · have := hpp _ h1; omega)
                (fun i hi hm => by
                  rcases List.mem_cons.1 hm with h1 | h1
                  · have := hov i hi; omega
                  · exact (hdis i hi).1 h1)
              have kk3 : Kp [] w0 w3 := (kk2.drewN _).trans' hk3 (by simp) (fun i hi => .inr (by
                rcases List.mem_cons.1 hi with rfl | hi
                · omega
                · have := hpp i hi; omega))
              have x1 := kk3.cell E1.out (by simp)
              have x2 := kk3.cell E2.out (by simp)
              clear z1 z2
              go_wp2_with fail
              refine mix_nil ?_
              go_wp2_with fail
              refine wp_region_mix [([0, 1, 2, 3, 7, 8, 4, 9, 5, 10, 6, 11], [12, 13, 14, 15], []), ([16, 17, 18, 19, 20, 21], [22, 23, 24, 25], []), ([26, 28], [27, 29, 30, 31], [])] (by kernel_rfl) (by kernel_rfl) ?_
              refine mix_cons' (by repeat (first | exact pick_end | apply (pick_step rfl))) (by repeat (first | exact pick_end | apply (pick_step rfl))) ?_
              repeat (go_big_quiet_step (fail))
              refine wpQuiet_nil ?_
              intro nq
              go_wp2_with fail
              have hRP := refput_any (hRf3.kp (K := []) ((Kp.refl _ _).drewN nq) (by simp) (by simp)) hSame da bp bc bs ((HB.out _ kk3).drewN _) hbl
              rw [HOG.out] at hRP
              refine hRP.mono ?_
              clear hRP
              rintro e w4 ⟨vo4, v4, out4, L4, rfl, hown4, hRf4, ⟨hoe, hse⟩, hk4, hv4, hvo4⟩
              subst hoe
              obtain ⟨q4, c4, rfl, _, hc4⟩ := hown4.shape
              rw [← hbn3] at hse
              simp only [World.heap_drewN] at hv4
              have hs4 := hk4.size
              simp only [World.heap_drewN] at hs4
              have hown3' := (hown3.drewN nq).kp hk4 (by
                rw [ob_slice]
                intro i hi hm
                simp at hm
                subst hm
                rcases hvo3 _ (.inl hi) with h1 | h1
                · have := hobs _ h1; omega
                · omega)
              have hown2'' := (hown2'.drewN nq).kp hk4 (by
                rw [ob_slice]
                intro i hi hm
                simp at hm
                subst hm
                have h1 := hlo2 _ hi
                omega)
              have hp3lo : ∀ i, i ∈ obp p3 → w0.heap.size + 1 < i ∧ i < w3.heap.size ∧ i ∉ obp p2 := by
                intro i hi
                rcases hpp3 i hi with h1 | h1
                · have h5 := hpp i h1
                  exact ⟨h5.1, by omega, fun hm => by have := hlo2 i hm; omega⟩
                · exact ⟨by omega, h1.2, fun hm => by have := hlo2 i hm; omega⟩
              have hr3lo : ∀ i, i ∈ obs rs3 → w0.heap.size + 1 < i ∧ i < w3.heap.size ∧ i ∉ obp p2 := by
                intro i hi
                have hu : i < w3.heap.size := by
                  obtain ⟨r, hr, hir⟩ := mem_obs.1 hi
                  exact ((hP3.ok r hr).own.lt _ hir).2
                rcases hvo3 i (.inr hi) with h1 | h1
                · refine ⟨hobs i h1, hu, fun hm => ?_⟩
                  obtain ⟨r, hr, hir⟩ := mem_obs.1 h1
                  have := ((hPc.ok r hr).own.lt _ hir).2
                  have := hlo2 i hm
                  omega
                · exact ⟨by omega, hu, fun hm => by have := hlo2 i hm; omega⟩
              have hP4 := (hP3.kp (L := []) ((Kp.refl _ _).drewN nq) (by simp) (by simp) (by simp)).kp hk4 (by simp) (fun i hi hm => by have := hp3lo i hi; simp at hm; omega) (fun i hi hm => by have := hr3lo i hi; simp at hm; omega)
              have kk4 : Kp [] w0 w4 := (kk3.drewN _).trans' hk4 (by simp) (fun i hi => .inr (by simp at hi; omega))
              have hheld : heldTo (rs3.map Rn.bn) = L4.length := by rw [hse.held, heldTo_eq]
              have u1 := kk4.cell E1.out (by simp)
              have u2 := kk4.cell E2.out (by simp)
              clear x1 x2
              go_wp2_with fail
              refine (l13_same _ _ og.1 og.1 _ hown3'.byt hown4.byt).mono ?_
              rw [show sameTo og.1 og.1 = true by simp [sameTo]]
              rintro e w5 ⟨rfl, n5, rfl⟩
              go_wp2_with fail
              refine mix_cons' (by repeat (first | exact pick_end | apply (pick_step rfl))) (by repeat (first | exact pick_end | apply (pick_step rfl))) ?_
              repeat (go_big_quiet_step (fail))
              refine wpQuiet_nil ?_
              intro nq
              go_wp2_with fail
              refine (l13_stands _ _ (bs ++ [171]) bs _ (hown2''.byt.drewN _) ((HB.out _ kk4).drewN _) (by omega)).mono ?_
              rw [show sameTo (bs ++ [171]) (bs ++ [171]) = true by simp [sameTo]]
              rintro e w5' ⟨rfl, n5', rfl⟩
              go_wp2_with fail
              refine mix_cons' (by repeat (first | exact pick_end | apply (pick_step rfl))) (by repeat (first | exact pick_end | apply (pick_step rfl))) ?_
              repeat (go_big_quiet_step (fail))
              refine wpQuiet_nil ?_
              intro nq
              go_wp2_with fail
              refine (held_any (hP4.kp (L := []) (by repeat (first | exact Kp.refl _ _ | apply Kp.drewN | apply Kp.alloc)) (by simp) (by simp) (by simp))).mono ?_
              rw [hheld]
              rintro e w6 ⟨rfl, hk6⟩
              have k46 : Kp [] w4 w6 := ((by repeat (first | exact Kp.refl _ _ | apply Kp.drewN | apply Kp.alloc)) : Kp _ _ _).trans hk6
              clear hk6
              go_wp2_with fail
              refine (refheld_any (hRf4.kp k46 (by simp) (by simp))).mono ?_
              rintro e w7 ⟨rfl, hk7⟩
              have k47 := k46.trans hk7
              clear hk7
              go_wp2_with fail
              refine mix_nil ?_
              go_wp2_with fail
              refine (l13_spoil _ (bs ++ [171]) _ ((hown2''.kp k47 (by simp)).mono (Nat.zero_le _)) (by simp; omega)).mono ?_
              rintro e w8 ⟨rfl, hk8⟩
              rw [ob_slice] at hk8
              have hv3lo : ∀ i, i ∈ obp q3 → w0.heap.size + 1 < i ∧ i ∉ obp p2 := by
                intro i hi
                rcases hvo3 i (.inl hi) with h1 | h1
                · refine ⟨hobs i h1, fun hm => ?_⟩
                  obtain ⟨r, hr, hir⟩ := mem_obs.1 h1
                  have := ((hPc.ok r hr).own.lt _ hir).2
                  have := hlo2 i hm
                  omega
                · exact ⟨by omega, fun hm => by have := hlo2 i hm; omega⟩
              have hP8 := (hP4.kp k47 (by simp) (by simp) (by simp)).kp hk8 (fun hm => by have := hlo2 _ hm; omega) (fun i hi => (hp3lo i hi).2.2) (fun i hi => (hr3lo i hi).2.2)
              have hRf8 := (hRf4.kp k47 (by simp) (by simp)).kp hk8 (fun hm => by have := hlo2 _ hm; omega) (fun i hi hm => row_ne hown2'' hRf4.row (by decide) i (by rw [ob_slice]; exact hm) hi)
              have hown8 := (hown3'.kp k47 (by simp)).kp hk8 (fun i hi hm => by rw [ob_slice] at hi; exact (hv3lo i hi).2 hm)
              have hol := putTo_len hSame.runs da bs
              rw [HOG.out] at hol
              go_wp2_with fail
              refine (l13_spoil _ og.1 _ hown8 (by omega)).mono ?_
              rintro e w9 ⟨rfl, hk9⟩
              rw [ob_slice] at hk9
              have hP9 := hP8.kpx hk9 (fun hm => by have := hv3lo _ hm; omega) (by have h5 := hP8.apart hown8; rwa [ob_slice] at h5) (fun i hi hm => hv3 i hm hi)
              have hRf9 := hRf8.kp hk9 (fun hm => by have := hv3lo _ hm; omega) (fun i hi hm => row_ne hown8 hRf8.row (by decide) i (by rw [ob_slice]; exact hm) hi)
              have kk9 : Kp [] w0 w9 := (show Kp [] w0 w8 from (kk4.trans k47).trans' hk8 (by simp) (fun i hi => .inr (by have := hlo2 i hi; omega))).trans' hk9 (by simp) (fun i hi => .inr (by have := hv3lo i hi; omega))
              have hs9 : w4.heap.size ≤ w9.heap.size := Nat.le_trans k47.size (Nat.le_trans hk8.size hk9.size)
              go_wp2_with fail
              refine (first_any hP9).mono ?_
              rintro e w10 ⟨rfl, hk10⟩
              have hP10 := hP9.kp hk10 (by simp) (by simp) (by simp)
              have hRf10 := hRf9.kp hk10 (by simp) (by simp)
              generalize hf : firstTo (rs3.map Rn.bn) = ft
              go_wp2_with fail
              refine (reffirst_same hRf10 hse).mono ?_
              rintro e w11 ⟨rfl, hk11⟩
              rw [hf]
              have hs11 := Nat.le_trans hk10.size hk11.size
              have HN := Lib.hid (show PpAt w0 w11 rs3 L4 from ⟨(kk9.trans hk10).trans hk11, ⟨_, p3, v4, hP10.kp hk11 (by simp) (by simp) (by simp), hRf10.kp hk11 (by simp) (by simp),
                fun i hi => ⟨(hp3lo i hi).1, by have := (hp3lo i hi).2.1; omega⟩, fun i hi => (hr3lo i hi).1,
                fun i hi => by
                  rcases hv4 i hi with h1 | h1
                  · exact hov i h1
                  · omega,
                fun i hi => by
                  rcases hv4 i hi with h1 | h1
                  · have h2 := hdis i h1
                    have h3 := hRf.row.lt i h1
                    refine ⟨fun hm => ?_, fun hm => ?_⟩
                    · rcases hpp3 i hm with h4 | h4
                      · exact h2.1 h4
                      · omega
                    · rcases hvo3 i (.inr hm) with h4 | h4
                      · exact h2.2 h4
                      · omega
                  · refine ⟨fun hm => ?_, fun hm => ?_⟩
                    · have := hp3lo i hm; omega
                    · have := hr3lo i hm; omega⟩, hse⟩)
              clear hP9 hP8 hP4 hP3 hPc hRf hRf3 hRf4 hRf8 hRf9 hRf10 hP10 hSame hse hdis hobs hov hv3 hvo3 hpp3 hv4 hvo4 hbv3 hp3lo hr3lo hv3lo hpp hlo2
              go_wp2_with fail
              go_roundw
              case rel => exact ⟨k3 + 1, rs3, L4, by omega, by omega, by go_num, HN.out⟩
              case measure => simp [intOf] <;> omega
            · exfalso; omega
          · go_wp2_with (go_at_call 9; refine (known_any _).mono ?_; rintro e w2 ⟨rfl, hk2⟩)
            go_ret
            exact ⟨rfl, H.kp.trans hk2⟩

end Go.Proofs.Ytodedpmedkgkmaa

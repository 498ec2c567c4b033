/-
  wharflaw13.RingRow: its walk.
-/
import Derived.Test.YtodedpmedkgkmaaPlays
set_option linter.unusedVariables false
set_option linter.unusedSimpArgs false
namespace Go.Proofs.Ytodedpmedkgkmaa
open Go.RowKit

/-- integers that came in -/
def IntsAt (w : World) (p : Option Addr) (n : Nat) (z : Nat → Int) : Prop := ∀ i, i < n → ∃ g o, p = some ⟨g, o, none⟩ ∧ w.cell? ⟨g, o + i, none⟩ = some (.int .i64 (z i))

theorem IntsAt.kp {w w' : World} {p : Option Addr} {n : Nat} {z : Nat → Int} (h : IntsAt w p n z) (k : Kp [] w w') : IntsAt w' p n z := by
  intro i hi
  obtain ⟨g, o, h0, h1⟩ := h i hi
  exact ⟨g, o, h0, k.cell h1 (by simp)⟩

theorem bits255 (x : Int) : ∃ t : Nat, bits BinOp.and .i64 x 255 = (t : Int) ∧ t ≤ 255 := by
  have h255 : (BitVec.ofInt 64 255).toNat = 2 ^ 8 - 1 := by decide
  have key : (BitVec.ofInt 64 x &&& BitVec.ofInt 64 255).toNat = (x % ((2 ^ 64 : Nat) : Int)).toNat % 2 ^ 8 := by
    rw [BitVec.toNat_and, BitVec.toNat_ofInt, h255, Nat.and_two_pow_sub_one_eq_mod]
  have : bits BinOp.and .i64 x 255 = x % 256 := by
    show IntKind.i64.wrap ((BitVec.ofInt 64 x &&& BitVec.ofInt 64 255).toNat : Nat) = x % 256
    rw [key, IntKind.wrap_i64]
    omega
  exact ⟨(x % 256).toNat, by rw [this]; omega, by omega⟩

theorem Byt.lt {w : World} {p : Option Addr} {n c : Nat} {l : List UInt8} (h : Byt w (.slice p n c) l) : l = [] ∨ ∀ i, i ∈ obp p → i < w.heap.size := by
  by_cases hl : l = []
  · exact .inl hl
  · obtain ⟨b, o, rfl, hc⟩ := h.ptr (k := 0) (List.length_pos_iff.2 hl)
    exact .inr fun i hi => by simp [obp] at hi; subst hi; exact World.block_lt_of_cell? w _ (hc 0 (List.length_pos_iff.2 hl))

theorem peek_pref (q : List UInt8) (n : Int) : ∃ r, peekTo q 0 n = q.take r ∧ r ≤ q.length := by
  unfold peekTo
  split
  · exact ⟨0, by simp, Nat.zero_le _⟩
  · refine ⟨min n.toNat q.length, ?_, Nat.min_le_right _ _⟩
    show (q.drop 0).take n.toNat = _
    rw [List.drop_zero, ← List.take_eq_take_min]

theorem row_eq {bs outl q : List UInt8} {j t m r : Nat} (h : outl ++ q = bs.take j) (hm : m ≤ ((bs.drop j).take t).length) (hj : j ≤ bs.length) (hr : r ≤ (q ++ ((bs.drop j).take t).take m).length) :
    j + m ≤ bs.length ∧ (outl ++ (q ++ ((bs.drop j).take t).take m).take r) ++ (q ++ ((bs.drop j).take t).take m).drop r = bs.take (j + m) := by
  simp only [List.length_take, List.length_drop] at hm
  refine ⟨by omega, ?_⟩
  rw [List.append_assoc, List.take_append_drop, ← List.append_assoc, h, List.take_take, show min m t = m by omega, List.take_add]

set_option maxRecDepth 10000 in
set_option maxHeartbeats 3200000 in
theorem row_some (room : Nat) (q0 : Option Addr) (c0 : Nat) (bs : List UInt8) (p : Option Addr) (n c : Nat) (z : Nat → Int) (w : World) (hr1 : 1 ≤ room) (hr2 : room ≤ 6000) (hb : Byt w (.slice q0 bs.length c0) bs) (hbl : bs.length ≤ 6000) (hS : IntsAt w p n z) (hn : n ≤ 3000) :
    Calls Try.prog 4 #[.int .i64 room, .slice q0 bs.length c0, .slice p n c] w fun e w' => e = .returned (.bool true) ∧ Kp [] w w' := by
  have HS := Lib.hid hS
  have HB := Lib.hid (show ∀ w', Kp [] w w' → Byt w' (.slice q0 bs.length c0) bs from fun w' k => hb.kp k (by simp))
  have hc0 := hb.len.2.1
  have HN := Lib.hid (show ∀ j t : Nat, (bs.drop j).take t = [] ∨ w.heap.size ∉ obp q0 from fun j t => by
    rcases hb.lt with rfl | h
    · exact .inl (by simp)
    · exact .inr (by intro hi; have := h _ hi; omega))
  clear hS hb
  go_enter Try.func4, Try.ntmps4
  go_wp2_with (go_at_call 10; refine (new_any room _).mono ?_; rintro e w1 ⟨hk1, ⟨hz, _⟩ | ⟨_, rfl, hr1, hz1⟩⟩; exact absurd ⟨by omega, by omega⟩ hz)
  have hR : RingAt w1 (w.heap.size + 1) w.heap.size room [] := by simpa using hr1
  clear hr1
  go_loopw [9, 10, 11] (fun ov jv i wr => ∃ (k j : Nat) (outl q : List UInt8), k ≤ n ∧ i = .int .i64 k ∧ j ≤ bs.length ∧ jv = .int .i64 j ∧ OwnB wr w.heap.size 5 ov outl ∧ (∀ i, i ∈ ob ov → w.heap.size + 1 < i) ∧ RingAt wr (w.heap.size + 1) w.heap.size room q ∧ outl ++ q = bs.take j ∧ Kp [] w wr) (fun _ _ i _ => n - (intOf i).toNat)
  case atStart => exact ⟨0, 0, [], [], Nat.zero_le _, rfl, Nat.zero_le _, rfl, World.ownsRow_nil _ _ _ _, by simp [ob, Value.ownBlock], hR, by simp, hk1⟩
  case round =>
    obtain ⟨k, j, outl, q, hk, rfl, hj, rfl, hown, hob, hring, heq, hkp⟩ := hrel
    obtain ⟨op, oc, rfl, _, hoc⟩ := hown.shape
    have HE := Lib.hid heq
    clear heq
    have hft := hring.fits
    by_cases hlt : k < n
    · obtain ⟨g, o, rfl, hz0⟩ := HS.out k hlt
      have hz := hkp.cell hz0 (by simp)
      have HZ := Lib.hid hz0
      clear hz0
      obtain ⟨t, ht, ht2⟩ := bits255 (z k)
      have hbyt : ∀ d, d = min t (bs.length - j) → ∀ w', Kp [] w w' → (c0 = j → Byt w' (.slice q0 d (c0 - j)) ((bs.drop j).take t)) ∧ (¬ c0 = j → Byt w' (.slice (q0.map (fun x => x.add j)) d (c0 - j)) ((bs.drop j).take t)) := by
        rintro d rfl w' k'
        have h5 := (HB.out w' k').mid (k := j) (j := j + min t (bs.length - j)) (by omega) (by omega)
        rw [show j + min t (bs.length - j) - j = min t (bs.length - j) by omega, show (bs.drop j).take (min t (bs.length - j)) = (bs.drop j).take t by rw [← List.length_drop, ← List.take_eq_take_min]] at h5
        exact h5
      have HM := Lib.hid hbyt
      clear hbyt
      rcases Nat.lt_or_ge (j + t) bs.length with hm | hm
      · by_cases hcj : c0 = j
        · exfalso; omega
        · go_wp2_with fail
          have hW := ringwrite hring (.slice (q0.map (fun x => x.add j)) t (c0 - j)) ((bs.drop j).take t) ((HM.out _ (by omega) _ hkp).2 hcj) ((HN.out j t).imp id fun h => by rw [ob_slice, obp_map]; exact h)
          refine hW.mono ?_
          clear hW
          rintro e w2 ⟨he, hring2, hk2⟩
          obtain ⟨m, hm1, hm2⟩ : ∃ m, min ((bs.drop j).take t).length (room - q.length) = m ∧ m ≤ ((bs.drop j).take t).length := ⟨_, rfl, by omega⟩
          rw [hm1] at he hring2
          subst he
          clear hm1
          have hjm := (row_eq (r := 0) HE.out hm2 hj (Nat.zero_le _)).1
          have kk2 : Kp [] w w2 := hkp.trans' hk2 (by simp) (by simp)
          have hz2 := kk2.cell HZ.out (by simp)
          go_wp2_with fail
          obtain ⟨r, hpr, hr⟩ := peek_pref (q ++ ((bs.drop j).take t).take m) (bits BinOp.and .i64 (z k / 256) 255)
          have hfin := (row_eq HE.out hm2 hj hr).2
          have hP := ringpeek hring2 0 (bits BinOp.and .i64 (z k / 256) 255)
          rw [hpr] at hP
          clear hpr
          generalize q ++ ((bs.drop j).take t).take m = q2 at hring2 hP hr hfin
          have hft2 := hring2.fits
          refine hP.mono ?_
          clear hP
          rintro e w3 ⟨v3, rfl, hown3, hk3⟩
          have hpl : (q2.take r).length = r := by simp; omega
          generalize q2.take r = pk at hown3 hpl hfin
          obtain ⟨p3, c3, rfl, _⟩ := hown3.shape
          rw [hpl] at hown3 ⊢
          have HF := Lib.hid hfin
          clear hfin hz2
          go_wp2_with fail
          have hD := ringdrop (hring2.kp hk3 (by simp) (by simp)) r
          rw [show min (r : Int).toNat q2.length = r by omega] at hD
          refine hD.mono ?_
          clear hD
          rintro e w4 ⟨rfl, hring4, hk4⟩
          have hs2 := hk2.size
          have hs3 := hk3.size
          have hs4 := hk4.size
          have hs0 := hkp.size
          have hrl := hring.lt
          have hown4 : OwnB w4 w.heap.size 5 (.slice op outl.length oc) outl := ((hown.kp hk2 (fun i hi => by have := hob i hi; simp; omega)).kp hk3 (by simp)).kp hk4 (fun i hi => by have := hob i hi; simp; omega)
          have hpk4 : Byt w4 (.slice p3 r c3) pk := by
            have h5 := hown3.byt.kp hk4 (fun i hi => by have h6 := hown3.lt i hi; simp; omega)
            exact h5
          have hol : outl.length ≤ 6000 := by
            have := congrArg List.length HE.out
            simp at this
            omega
          have HPL := Lib.hid hpl
          clear hpl
          go_wp2_with (at_builtin; go_must (refine wpList_append_bytes rfl (.tmp 79) (.tmp 80) 32 rfl 5 Try.underlying32 infoU8 w.heap.size outl pk (outl ++ pk) (outl.length + r) rfl rfl hown4 hpk4 rfl rfl ?_ ?_ ?_; omega; omega; intro p5 c5 w5 hown5 hk5 hob5))
          go_roundw
          case rel =>
            have hk05 : Kp [] w w5 := (show Kp [] w w4 from (kk2.trans hk3).trans' hk4 (by simp) (by simp)).trans' hk5 (by simp) (fun i hi => .inr (by have := hob i (by rw [ob_slice]; exact hi); omega))
            refine ⟨k + 1, j + m, outl ++ pk, q2.drop r, by omega, by go_num, hjm, by go_num, ?_, ?_, hring4.kp hk5 (fun hi => by have := hob _ (by rw [ob_slice]; exact hi); omega) (fun hi => by have := hob _ (by rw [ob_slice]; exact hi); omega), HF.out, hk05⟩
            · have h5 := hown5
              rw [← HPL.out] at h5 ⊢
              exact h5
            · intro i hi
              rw [ob_slice] at hi
              rcases hob5 with h5 | h5
              · exact hob i (by rw [ob_slice, ← h5]; exact hi)
              · rw [h5] at hi; simp at hi; omega
          case measure => simp [intOf]; omega
      · by_cases hcj : c0 = j
        · subst hcj
          go_wp2_with fail
          have hW := ringwrite hring (.slice q0 0 0) ((bs.drop c0).take t) (by have h5 := (HM.out 0 (by omega) _ hkp).1 trivial; rwa [show c0 - c0 = 0 by omega] at h5) ((HN.out c0 t).imp id fun h => by rw [ob_slice]; exact h)
          refine hW.mono ?_
          clear hW
          rintro e w2 ⟨he, hring2, hk2⟩
          obtain ⟨m, hm1, hm2⟩ : ∃ m, min ((bs.drop c0).take t).length (room - q.length) = m ∧ m ≤ ((bs.drop c0).take t).length := ⟨_, rfl, by omega⟩
          rw [hm1] at he hring2
          subst he
          clear hm1
          have hjm := (row_eq (r := 0) HE.out hm2 hj (Nat.zero_le _)).1
          have kk2 : Kp [] w w2 := hkp.trans' hk2 (by simp) (by simp)
          have hz2 := kk2.cell HZ.out (by simp)
          go_wp2_with fail
          obtain ⟨r, hpr, hr⟩ := peek_pref (q ++ ((bs.drop c0).take t).take m) (bits BinOp.and .i64 (z k / 256) 255)
          have hfin := (row_eq HE.out hm2 hj hr).2
          have hP := ringpeek hring2 0 (bits BinOp.and .i64 (z k / 256) 255)
          rw [hpr] at hP
          clear hpr
          generalize q ++ ((bs.drop c0).take t).take m = q2 at hring2 hP hr hfin
          have hft2 := hring2.fits
          refine hP.mono ?_
          clear hP
          rintro e w3 ⟨v3, rfl, hown3, hk3⟩
          have hpl : (q2.take r).length = r := by simp; omega
          generalize q2.take r = pk at hown3 hpl hfin
          obtain ⟨p3, c3, rfl, _⟩ := hown3.shape
          rw [hpl] at hown3 ⊢
          have HF := Lib.hid hfin
          clear hfin hz2
          go_wp2_with fail
          have hD := ringdrop (hring2.kp hk3 (by simp) (by simp)) r
          rw [show min (r : Int).toNat q2.length = r by omega] at hD
          refine hD.mono ?_
          clear hD
          rintro e w4 ⟨rfl, hring4, hk4⟩
          have hs2 := hk2.size
          have hs3 := hk3.size
          have hs4 := hk4.size
          have hs0 := hkp.size
          have hrl := hring.lt
          have hown4 : OwnB w4 w.heap.size 5 (.slice op outl.length oc) outl := ((hown.kp hk2 (fun i hi => by have := hob i hi; simp; omega)).kp hk3 (by simp)).kp hk4 (fun i hi => by have := hob i hi; simp; omega)
          have hpk4 : Byt w4 (.slice p3 r c3) pk := by
            have h5 := hown3.byt.kp hk4 (fun i hi => by have h6 := hown3.lt i hi; simp; omega)
            exact h5
          have hol : outl.length ≤ 6000 := by
            have := congrArg List.length HE.out
            simp at this
            omega
          have HPL := Lib.hid hpl
          clear hpl
          go_wp2_with (at_builtin; go_must (refine wpList_append_bytes rfl (.tmp 79) (.tmp 80) 32 rfl 5 Try.underlying32 infoU8 w.heap.size outl pk (outl ++ pk) (outl.length + r) rfl rfl hown4 hpk4 rfl rfl ?_ ?_ ?_; omega; omega; intro p5 c5 w5 hown5 hk5 hob5))
          go_roundw
          case rel =>
            have hk05 : Kp [] w w5 := (show Kp [] w w4 from (kk2.trans hk3).trans' hk4 (by simp) (by simp)).trans' hk5 (by simp) (fun i hi => .inr (by have := hob i (by rw [ob_slice]; exact hi); omega))
            refine ⟨k + 1, c0 + m, outl ++ pk, q2.drop r, by omega, by go_num, hjm, by go_num, ?_, ?_, hring4.kp hk5 (fun hi => by have := hob _ (by rw [ob_slice]; exact hi); omega) (fun hi => by have := hob _ (by rw [ob_slice]; exact hi); omega), HF.out, hk05⟩
            · have h5 := hown5
              rw [← HPL.out] at h5 ⊢
              exact h5
            · intro i hi
              rw [ob_slice] at hi
              rcases hob5 with h5 | h5
              · exact hob i (by rw [ob_slice, ← h5]; exact hi)
              · rw [h5] at hi; simp at hi; omega
          case measure => simp [intOf]; omega
        · go_wp2_with fail
          have hW := ringwrite hring (.slice (q0.map (fun x => x.add j)) (bs.length - j) (c0 - j)) ((bs.drop j).take t) ((HM.out _ (by omega) _ hkp).2 hcj) ((HN.out j t).imp id fun h => by rw [ob_slice, obp_map]; exact h)
          refine hW.mono ?_
          clear hW
          rintro e w2 ⟨he, hring2, hk2⟩
          obtain ⟨m, hm1, hm2⟩ : ∃ m, min ((bs.drop j).take t).length (room - q.length) = m ∧ m ≤ ((bs.drop j).take t).length := ⟨_, rfl, by omega⟩
          rw [hm1] at he hring2
          subst he
          clear hm1
          have hjm := (row_eq (r := 0) HE.out hm2 hj (Nat.zero_le _)).1
          have kk2 : Kp [] w w2 := hkp.trans' hk2 (by simp) (by simp)
          have hz2 := kk2.cell HZ.out (by simp)
          go_wp2_with fail
          obtain ⟨r, hpr, hr⟩ := peek_pref (q ++ ((bs.drop j).take t).take m) (bits BinOp.and .i64 (z k / 256) 255)
          have hfin := (row_eq HE.out hm2 hj hr).2
          have hP := ringpeek hring2 0 (bits BinOp.and .i64 (z k / 256) 255)
          rw [hpr] at hP
          clear hpr
          generalize q ++ ((bs.drop j).take t).take m = q2 at hring2 hP hr hfin
          have hft2 := hring2.fits
          refine hP.mono ?_
          clear hP
          rintro e w3 ⟨v3, rfl, hown3, hk3⟩
          have hpl : (q2.take r).length = r := by simp; omega
          generalize q2.take r = pk at hown3 hpl hfin
          obtain ⟨p3, c3, rfl, _⟩ := hown3.shape
          rw [hpl] at hown3 ⊢
          have HF := Lib.hid hfin
          clear hfin hz2
          go_wp2_with fail
          have hD := ringdrop (hring2.kp hk3 (by simp) (by simp)) r
          rw [show min (r : Int).toNat q2.length = r by omega] at hD
          refine hD.mono ?_
          clear hD
          rintro e w4 ⟨rfl, hring4, hk4⟩
          have hs2 := hk2.size
          have hs3 := hk3.size
          have hs4 := hk4.size
          have hs0 := hkp.size
          have hrl := hring.lt
          have hown4 : OwnB w4 w.heap.size 5 (.slice op outl.length oc) outl := ((hown.kp hk2 (fun i hi => by have := hob i hi; simp; omega)).kp hk3 (by simp)).kp hk4 (fun i hi => by have := hob i hi; simp; omega)
          have hpk4 : Byt w4 (.slice p3 r c3) pk := by
            have h5 := hown3.byt.kp hk4 (fun i hi => by have h6 := hown3.lt i hi; simp; omega)
            exact h5
          have hol : outl.length ≤ 6000 := by
            have := congrArg List.length HE.out
            simp at this
            omega
          have HPL := Lib.hid hpl
          clear hpl
          go_wp2_with (at_builtin; go_must (refine wpList_append_bytes rfl (.tmp 79) (.tmp 80) 32 rfl 5 Try.underlying32 infoU8 w.heap.size outl pk (outl ++ pk) (outl.length + r) rfl rfl hown4 hpk4 rfl rfl ?_ ?_ ?_; omega; omega; intro p5 c5 w5 hown5 hk5 hob5))
          go_roundw
          case rel =>
            have hk05 : Kp [] w w5 := (show Kp [] w w4 from (kk2.trans hk3).trans' hk4 (by simp) (by simp)).trans' hk5 (by simp) (fun i hi => .inr (by have := hob i (by rw [ob_slice]; exact hi); omega))
            refine ⟨k + 1, j + m, outl ++ pk, q2.drop r, by omega, by go_num, hjm, by go_num, ?_, ?_, hring4.kp hk5 (fun hi => by have := hob _ (by rw [ob_slice]; exact hi); omega) (fun hi => by have := hob _ (by rw [ob_slice]; exact hi); omega), HF.out, hk05⟩
            · have h5 := hown5
              rw [← HPL.out] at h5 ⊢
              exact h5
            · intro i hi
              rw [ob_slice] at hi
              rcases hob5 with h5 | h5
              · exact hob i (by rw [ob_slice, ← h5]; exact hi)
              · rw [h5] at hi; simp at hi; omega
          case measure => simp [intOf]; omega
    · have hqr : q.length ≤ room := hft.1
      have hlo := hring.lt
      have hol : outl.length ≤ 6000 := by
        have := congrArg List.length HE.out
        simp at this
        omega
      go_wp2_with fail
      have hP := ringpeek hring 0 room
      rw [show peekTo q 0 room = q by unfold peekTo; rw [if_neg (by omega)]; show (q.drop 0).take room = q; rw [List.drop_zero, List.take_of_length_le (by omega)]] at hP
      refine hP.mono ?_
      clear hP
      rintro e w2 ⟨v2, rfl, hown2, hk2⟩
      obtain ⟨p2, c2, rfl, _⟩ := hown2.shape
      have hown3 := hown.kp hk2 (by simp)
      have hs2 := hk2.size
      have hs0 := hkp.size
      go_wp2_with (at_builtin; go_must (refine wpList_append_bytes rfl (.tmp 82) (.tmp 85) 32 rfl 5 Try.underlying32 infoU8 w.heap.size outl q (bs.take j) (outl.length + q.length) rfl rfl hown3 hown2.byt HE.out rfl ?_ ?_ ?_; omega; omega; intro p5 c5 w5 hown5 hk5 hob5))
      have kk5 : Kp [] w w5 := (hkp.trans hk2).trans' hk5 (by simp) (fun i hi => .inr (by have := hob i (by rw [ob_slice]; exact hi); omega))
      refine (l13_same _ _ (bs.take j) (bs.take j) _ hown5.byt ((HB.out _ kk5).take hj)).mono ?_
      rw [show sameTo (bs.take j) (bs.take j) = true by simp [sameTo]]
      rintro e w6 ⟨rfl, n6, rfl⟩
      go_wp2_with fail
      refine (known_any _).mono ?_
      rintro e w7 ⟨rfl, hk7⟩
      go_wp2_with fail
      go_ret
      exact ⟨rfl, (kk5.drewN _).trans hk7⟩

set_option maxRecDepth 10000 in
set_option maxHeartbeats 800000 in
theorem row_none (room : Int) (q0 p : Option Addr) (m c0 n c : Nat) (w : World) (h : 6000 < m ∨ (m ≤ 6000 ∧ room < 1) ∨ (m ≤ 6000 ∧ 1 ≤ room ∧ 6000 < room) ∨ (m ≤ 6000 ∧ 1 ≤ room ∧ room ≤ 6000 ∧ 3000 < n)) :
    Calls Try.prog 4 #[.int .i64 room, .slice q0 m c0, .slice p n c] w fun e w' => e = .returned (.bool true) ∧ Kp [] w w' := by
  rcases h with h1 | ⟨h1, h2⟩ | ⟨h1, h2, h3⟩ | ⟨h1, h2, h3, h4⟩
  · go_enter Try.func4, Try.ntmps4
    go_wp2_with (go_at_call 9; refine (known_any _).mono ?_; rintro e w2 ⟨rfl, hk2⟩)
    go_ret
    exact ⟨rfl, hk2⟩
  · go_enter Try.func4, Try.ntmps4
    go_wp2_with (go_at_call 9; refine (known_any _).mono ?_; rintro e w2 ⟨rfl, hk2⟩)
    go_ret
    exact ⟨rfl, hk2⟩
  · go_enter Try.func4, Try.ntmps4
    go_wp2_with (go_at_call 9; refine (known_any _).mono ?_; rintro e w2 ⟨rfl, hk2⟩)
    go_ret
    exact ⟨rfl, hk2⟩
  · go_enter Try.func4, Try.ntmps4
    go_wp2_with (go_at_call 9; refine (known_any _).mono ?_; rintro e w2 ⟨rfl, hk2⟩)
    go_ret
    exact ⟨rfl, hk2⟩

theorem row_walk (room : Int) (q0 : Option Addr) (m c0 : Nat) (bs : List UInt8) (p : Option Addr) (n c : Nat) (z : Nat → Int) (w : World) (hb : Byt w (.slice q0 m c0) bs) (hS : IntsAt w p n z) :
    Calls Try.prog 4 #[.int .i64 room, .slice q0 m c0, .slice p n c] w fun e w' => e = .returned (.bool true) ∧ Kp [] w w' := by
  by_cases h : 6000 < m ∨ (m ≤ 6000 ∧ room < 1) ∨ (m ≤ 6000 ∧ 1 ≤ room ∧ 6000 < room) ∨ (m ≤ 6000 ∧ 1 ≤ room ∧ room ≤ 6000 ∧ 3000 < n)
  · exact row_none room q0 p m c0 n c w h
  · obtain ⟨r, rfl⟩ := Int.eq_ofNat_of_zero_le (show 0 ≤ room by omega)
    obtain ⟨rfl, _⟩ := hb.len
    exact row_some r q0 c0 bs p n c z w (by omega) (by omega) hb (by omega) hS (by omega)

end Go.Proofs.Ytodedpmedkgkmaa

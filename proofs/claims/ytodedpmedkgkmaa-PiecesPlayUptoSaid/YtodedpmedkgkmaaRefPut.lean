/-
  wharfref13.Pieces: Put.
-/
import Derived.Test.YtodedpmedkgkmaaRefPc
set_option linter.unusedVariables false
set_option linter.unusedSimpArgs false
namespace Go.Proofs.Ytodedpmedkgkmaa
open Go.RowKit

theorem idx_le {F : List Bp} (hU : Up F) : ∀ j, j < F.length → j ≤ (F.getD j (0, 0)).1 := by
  intro j
  induction j with
  | zero => intro _; omega
  | succ j ih =>
    intro hj
    have := ih (by omega)
    have h3 := List.pairwise_iff_getElem.1 hU j (j + 1) (by omega) hj (by omega)
    simp only [List.getD_eq_getElem?_getD, List.getElem?_eq_getElem hj, List.getElem?_eq_getElem (show j < F.length by omega), Option.getD_some] at this ⊢
    omega

theorem tail_next {F : List Bp} {o : List UInt8} {i : Nat} (hi : i < F.length) (ho : o.length ≤ i) :
    (((F.drop o.length).map fun p => (p.1 - o.length, p.2)).take (i + 1 - o.length) : List Bp) = ((F.drop o.length).map fun p => (p.1 - o.length, p.2)).take (i - o.length) ++ [((F.getD i (0, 0)).1 - o.length, (F.getD i (0, 0)).2)] := by
  rw [show i + 1 - o.length = (i - o.length) + 1 by omega]
  have hl : i - o.length < ((F.drop o.length).map fun p => ((p.1 - o.length, p.2) : Bp)).length := by simp; omega
  rw [List.take_succ_eq_append_getElem hl]
  congr 2
  rw [List.getElem_map, List.getElem_drop]
  have e : o.length + (i - o.length) = i := by omega
  simp only [e]
  simp [List.getD_eq_getElem?_getD, List.getElem?_eq_getElem hi]

/-- what the document's Put leaves -/
def RefPutDone (w : World) (b : Nat) (v : Value) (P : List UInt8 → List Bp → Prop) (e : Ending) (w' : World) : Prop :=
  ∃ vo v' out L, e = .returned vo ∧ OwnB w' w.heap.size 5 vo out ∧ RefPc w' b v' L ∧ P out L ∧ Kp [b] w w' ∧ (∀ i, i ∈ ob v' → i ∈ ob v ∨ w.heap.size ≤ i) ∧ ∀ i, i ∈ ob vo → i ∉ ob v'

set_option maxRecDepth 10000 in
set_option maxHeartbeats 1600000 in
theorem refput_out {w : World} {b : Nat} {v : Value} {L : List Bp} (h : RefPc w b v L) (ahead : Int) (sv : Value) (ha : ahead < -1048560 ∨ 1048560 < ahead) :
    Calls Try.prog 28 #[.pointer (some ⟨b, 0, none⟩), .int .i64 ahead, sv] w (RefPutDone w b v fun out L' => out = [] ∧ L' = L) := by
  have HH := Lib.hid h
  clear h
  rcases ha with ha | ha
  all_goals
    go_enter Try.func28, Try.ntmps28
    go_wp2
    go_ret
    exact ⟨_, v, [], L, rfl, World.ownsRow_nil _ _ _ _, HH.out, ⟨rfl, rfl⟩, Kp.refl _ _, fun i hi => .inl hi, by simp [ob, Value.ownBlock]⟩


/-- the row's tail, as append's source -/
theorem RowP.src {w : World} {base n c k : Nat} {p : Option Addr} {L : List Bp} (h : RowP w base (.slice p n c) L) (hk : k < c) : ∃ ad, p.map (fun x => x.add (k * 2)) = some ad ∧ ∀ j u, (cellsP (L.drop k))[j]? = some u → w.cell? (ad.add j) = some u := by
  have h0 := h
  rcases h.2 with ⟨h1, h2⟩ | ⟨g, cap, cur, h1, _⟩
  · simp only [Value.slice.injEq] at h1
    omega
  · simp only [Value.slice.injEq] at h1
    obtain ⟨rfl, rfl, rfl⟩ := h1
    refine ⟨(⟨g, 0, none⟩ : Addr).add (k * 2), rfl, fun j u hj => ?_⟩
    rw [← cellsP_drop, List.getElem?_drop] at hj
    have := World.ownsRow.cells (g := g) h0 rfl _ _ hj
    rw [add_lit, add_lit, Nat.zero_add]
    rwa [add_lit, Nat.zero_add] at this


set_option maxRecDepth 10000 in
set_option maxHeartbeats 3200000 in
theorem refput_in {w : World} {b : Nat} {v : Value} {L : List Bp} (h : RefPc w b v L) (ahead : Int) (q0 : Option Addr) (c0 : Nat) (bs : List UInt8) (hb : Byt w (.slice q0 bs.length c0) bs) (hbl : bs.length ≤ 6000) (ha : -1048560 ≤ ahead) (ha2 : ahead ≤ 1048560) :
    Calls Try.prog 28 #[.pointer (some ⟨b, 0, none⟩), .int .i64 ahead, .slice q0 bs.length c0] w (RefPutDone w b v fun out L' => RefOk (fun x => (getL L x).or (brings ahead bs x)) out L') := by
  obtain ⟨vp, vc, rfl⟩ := h.row.shape
  have x1 := h.blk.cell (off := 0) rfl
  have hLl := h.length
  have HR := Lib.hid h.row
  have HTP := Lib.hid h.top
  have HU := Lib.hid h.up
  have HH := Lib.hid h
  have HB := Lib.hid (show ∀ w', Kp [] w w' → Byt w' (.slice q0 bs.length c0) bs from fun w' k => hb.kp k (by simp))
  have hc0 := hb.len.2.1
  have hvc := (RowP.cap h.row).2.1
  clear h hb
  go_enter Try.func28, Try.ntmps28
  go_wp2
  go_loopw [7, 8, 9] (fun lv kv iv wr => ∃ (i k : Nat) (m : List Bp), i ≤ bs.length ∧ iv = .int .i64 i ∧ kv = .int .i64 k ∧ k ≤ L.length ∧ RowP wr w.heap.size lv m ∧ Kp [] w wr ∧ MergeOk ahead bs L i k m) (fun _ _ iv _ => bs.length - (intOf iv).toNat)
  case atStart => exact ⟨0, 0, [], Nat.zero_le _, rfl, rfl, Nat.zero_le _, RowP.nil _ _, Kp.refl _ _, MergeOk.start HU.out⟩
  case round =>
    obtain ⟨i, k, m, hil, rfl, rfl, hk, hrow, hkp, hM⟩ := hrel
    obtain ⟨lp, lc, rfl⟩ := hrow.shape
    have HM := Lib.hid hM
    clear hM
    obtain ⟨wo, rfl⟩ : ∃ wo : World, wo = wr := ⟨_, rfl⟩
    by_cases hi : i < bs.length
    · rcases Int.lt_or_le (ahead + i) 0 with hr | hr
      · go_wp2
        go_roundw
        case rel => exact ⟨i + 1, k, m, by omega, by go_num, rfl, hk, hrow, hkp, HM.out.skip hi (.inl hr)⟩
        case measure => simp [intOf] <;> omega
      · rcases Int.lt_or_le (ahead + i) 1048560 with hr2 | hr2
        · go_wp2
          go_loopw [7, 8] (fun lv kv wx => ∃ (k : Nat) (m : List Bp), kv = .int .i64 k ∧ k ≤ L.length ∧ RowP wx w.heap.size lv m ∧ Kp [] w wx ∧ MergeOk ahead bs L i k m) (fun _ kv _ => L.length - (intOf kv).toNat)
          case atStart => exact ⟨k, m, rfl, hk, hrow, hkp, HM.out⟩
          case round =>
            obtain ⟨k2, m2, rfl, hk2, hrowx, hkx, hM2⟩ := hrel
            obtain ⟨lp2, lc2, rfl⟩ := hrowx.shape
            have MK := Lib.hid hM2
            clear hM2
            have y1 := hkx.cell x1 (by simp)
            have hml2 := MK.out.length HTP.out
            have hml3 : m2.length ≤ 1048560 := by simp at hml2; omega
            clear hml2
            by_cases hkl : k2 < L.length
            · obtain ⟨g, hvp, _, _, d1, d2⟩ := HR.out.at_ hkl
              subst hvp
              have d1 := hkx.cell d1 (by simp)
              have d2 := hkx.cell d2 (by simp)
              obtain ⟨⟨ya, yb⟩, hy⟩ : ∃ y, L.getD k2 (0, 0) = y := ⟨_, rfl⟩
              have hyt : ya < 1048560 := by
                have hm := HTP.out (L.getD k2 (0, 0)) (by simp only [List.getD_eq_getElem?_getD, List.getElem?_eq_getElem hkl, Option.getD_some]; exact List.getElem_mem _)
                rwa [hy] at hm
              rw [hy] at d1 d2
              simp only [] at d1 d2
              have HY := Lib.hid hy
              clear hy
              by_cases hlt : (ya : Int) < ahead + i
              · have hmv := MK.out.move hkl (by rw [HY.out]; exact hlt) hr2
                rw [HY.out] at hmv
                have HMV := Lib.hid hmv
                have hmx := hmv.length HTP.out
                have hml : m2.length + 1 ≤ 1048560 := by simp at hmx; omega
                clear hmv hmx
                go_wp2_with (at_builtin; go_must (refine wpList_append_row rfl (.tmp 54) (.tmp 62) 62 rfl 72 Try.underlying62 infoPiece rfl (by omega) w.heap.size (cellsP m2) [.int .i64 ya, bv yb] 72 (m2.length + 1) rfl rfl (World.ownsRow.alloc hrowx _) (Blk.new _ _ _) rfl (by simp [Value.oneCell', bv]) rfl ?_ ?_ ?_ ?_; omega; (unfold maxLen; omega); (have := hkx.size; simp at *; omega); intro p5 c5 w5 hrow5 hk5 hob5))
                go_roundw
                case rel =>
                  refine ⟨k2 + 1, m2 ++ [(ya, yb)], by go_num, by omega, ?_, (hkx.alloc _).trans' hk5 (by simp) (fun i hi => .inr (hrowx.lt i (by rw [ob_slice]; exact hi)).1), HMV.out⟩
                  unfold RowP
                  simpa [cellsP_append, cellsP, bv] using hrow5
                case measure => simp [intOf] <;> omega
              · by_cases heq : (ya : Int) = ahead + i
                · have hkp2 := MK.out.keep HU.out hi hkl (by rw [HY.out]; exact heq)
                  have HKP := Lib.hid hkp2
                  have hbe : ((ya : Int) == ahead + i) = true := by rw [beq_iff_eq]; exact heq
                  clear hkp2 heq
                  go_wp2
                  go_roundw
                  case rel => exact ⟨i + 1, k2, m2, by omega, by go_num, rfl, hk2, hrowx, hkx, HKP.out⟩
                  case measure => simp [intOf] <;> omega
                · have HK := Lib.hid (show k2 < L.length → ahead + i < ((L.getD k2 (0, 0)).1 : Int) from fun _ => by rw [HY.out]; simp only []; omega)
                  have hbe : ((ya : Int) == ahead + i) = false := by rw [beq_eq_false_iff_ne]; exact heq
                  clear heq
                  have hbx := (HB.out _ (by exact hkx)).ptr (k := i) hi
                  obtain ⟨bg, bo, hbp, hbc⟩ := hbx
                  have hbi := hbc i hi
                  subst hbp
                  unfold bv at hbi
                  obtain ⟨A, hA⟩ : ∃ A : Nat, ahead + i = (A : Int) := ⟨(ahead + i).toNat, by omega⟩
                  have hMA := MK.out.add hi (by omega) (by omega) HK.out A hA.symm
                  generalize bs.getD i 0 = xb at hbi hMA
                  have HMA := Lib.hid hMA
                  clear hMA
                  have hmx := HMA.out.length HTP.out
                  have hml : m2.length + 1 ≤ 1048560 := by simp at hmx; omega
                  clear hbc hmx
                  go_wp2_with (at_builtin; go_must (refine wpList_append_row rfl (.tmp 85) (.tmp 92) 62 rfl 72 Try.underlying62 infoPiece rfl (by omega) w.heap.size (cellsP m2) [.int .i64 A, .int .u8 xb.toNat] 72 (m2.length + 1) rfl rfl (World.ownsRow.alloc hrowx _) (Blk.new _ _ _) rfl (by simp [Value.oneCell']) rfl ?_ ?_ ?_ ?_; omega; (unfold maxLen; omega); (have := hkx.size; simp at *; omega); intro p5 c5 w5 hrow5 hk5 hob5))
                  go_roundw
                  case rel =>
                    refine ⟨i + 1, k2, m2 ++ [(A, xb)], by omega, by go_num, rfl, hk2, ?_, (hkx.alloc _).trans' hk5 (by simp) (fun i hi => .inr (hrowx.lt i (by rw [ob_slice]; exact hi)).1), HMA.out⟩
                    unfold RowP
                    simpa [cellsP_append, cellsP, bv] using hrow5
                  case measure => simp [intOf] <;> omega
            · have HK := Lib.hid (show k2 < L.length → ahead + i < ((L.getD k2 (0, 0)).1 : Int) from fun h => absurd h hkl)
              have hbx := (HB.out _ (by exact hkx)).ptr (k := i) hi
              obtain ⟨bg, bo, hbp, hbc⟩ := hbx
              have hbi := hbc i hi
              subst hbp
              unfold bv at hbi
              obtain ⟨A, hA⟩ : ∃ A : Nat, ahead + i = (A : Int) := ⟨(ahead + i).toNat, by omega⟩
              have hMA := MK.out.add hi (by omega) (by omega) HK.out A hA.symm
              generalize bs.getD i 0 = xb at hbi hMA
              have HMA := Lib.hid hMA
              clear hMA
              have hmx := HMA.out.length HTP.out
              have hml : m2.length + 1 ≤ 1048560 := by simp at hmx; omega
              clear hbc hmx
              go_wp2_with (at_builtin; go_must (refine wpList_append_row rfl (.tmp 85) (.tmp 92) 62 rfl 72 Try.underlying62 infoPiece rfl (by omega) w.heap.size (cellsP m2) [.int .i64 A, .int .u8 xb.toNat] 72 (m2.length + 1) rfl rfl (World.ownsRow.alloc hrowx _) (Blk.new _ _ _) rfl (by simp [Value.oneCell']) rfl ?_ ?_ ?_ ?_; omega; (unfold maxLen; omega); (have := hkx.size; simp at *; omega); intro p5 c5 w5 hrow5 hk5 hob5))
              go_roundw
              case rel =>
                refine ⟨i + 1, k2, m2 ++ [(A, xb)], by omega, by go_num, rfl, hk2, ?_, (hkx.alloc _).trans' hk5 (by simp) (fun i hi => .inr (hrowx.lt i (by rw [ob_slice]; exact hi)).1), HMA.out⟩
                unfold RowP
                simpa [cellsP_append, cellsP, bv] using hrow5
              case measure => simp [intOf] <;> omega
        · go_wp2
          go_roundw
          case rel => exact ⟨i + 1, k, m, by omega, by go_num, rfl, hk, hrow, hkp, HM.out.skip hi (.inr hr2)⟩
          case measure => simp [intOf] <;> omega
    · obtain rfl : i = bs.length := by omega
      have hbt := HM.out
      have hfin : ∀ x, getL (m ++ L.drop k) x = (getL L x).or (brings ahead bs x) := fun x => by rw [hbt.got x, List.take_of_length_le (Nat.le_refl _)]
      have hFl := hbt.length HTP.out
      obtain ⟨F, hF⟩ : ∃ F, m ++ L.drop k = F := ⟨_, rfl⟩
      have hFlen : m.length + (L.length - k) = F.length := by rw [← hF]; simp
      have hup := hbt.up
      have htop : ∀ p ∈ F, p.1 < 1048560 := by
        intro p hp
        rw [← hF] at hp
        rcases List.mem_append.1 hp with hp | hp
        · exact hbt.top p hp
        · exact HTP.out p (List.mem_of_mem_drop hp)
      rw [hF] at hfin hFl hup
      have HF := Lib.hid hF
      have HFI := Lib.hid hfin
      have HFU := Lib.hid hup
      have HFT := Lib.hid htop
      have y1 := hkp.cell x1 (by simp)
      clear hF hfin hup htop hbt
      have hFc : cellsP F = cellsP m ++ cellsP (L.drop k) := by rw [← HF.out, cellsP_append]
      have HFC := Lib.hid hFc
      have hRk := HR.out.kp hkp (by simp)
      have HRK := Lib.hid hRk
      have hs0 := hkp.size
      clear hFc hRk
      rcases Nat.eq_or_lt_of_le (show k ≤ vc by omega) with hkc | hkc
      · subst hkc
        have hFm : cellsP F = cellsP m ++ [] := by
          rw [HFC.out, List.drop_of_length_le (by omega)]
          rfl
        have HFM := Lib.hid hFm
        clear hFm
        have hcap0 : vp = none → L.length = 0 ∧ k = 0 := by
          rintro rfl
          rcases HR.out.2 with ⟨h1, h2⟩ | ⟨g, cap, cur, h1, _⟩
          · simp only [Value.slice.injEq] at h1; omega
          · simp at h1
        have HC := Lib.hid hcap0
        clear hcap0
        cases vp with
        | none =>
          obtain ⟨hL0, hk0⟩ := HC.out rfl
          subst hk0
          rw [hL0] at y1
          go_wp2_with (at_builtin; go_must (refine wpList_append_cells rfl (.tmp 94) (.tmp 100) 62 rfl 72 Try.underlying62 infoPiece rfl (by omega) w.heap.size (cellsP m) [] F.length rfl rfl hrow (.inl ⟨rfl, by omega, by omega⟩) (by simp) (by simp) (by omega) ?_ ?_ ?_ ?_; omega; (unfold maxLen; omega); omega; intro p2 c2 w2 hrow2' hk2 hob2))
          have hrow2 : RowP w2 w.heap.size (.slice p2 F.length c2) F := by unfold RowP; rw [HFM.out]; exact hrow2'
          have kk2 : Kp [] w w2 := hkp.trans' hk2 (by simp) (fun i hi => .inr (hrow.lt i (by rw [ob_slice]; exact hi)).1)
          clear hrow2' hk2 hob2 y1 hrow hkp
          have HROW2 := Lib.hid hrow2
          clear hrow2
          go_wp2
          go_loopw [11, 12] (fun ov nv wr => ∃ (o : List UInt8), o.length ≤ F.length ∧ nv = .int .i64 o.length ∧ OwnB wr w.heap.size 5 ov o ∧ (∀ j, j < o.length → F[j]? = some (j, o.getD j 0)) ∧ Kp [] w wr ∧ RowP wr w.heap.size (.slice p2 F.length c2) F ∧ ∀ i, i ∈ ob ov → i ∉ obp p2) (fun _ nv _ => F.length - (intOf nv).toNat)
          case atStart => exact ⟨[], Nat.zero_le _, rfl, World.ownsRow_nil _ _ _ _, by simp, kk2, HROW2.out, by simp [ob, Value.ownBlock]⟩
          case round =>
            obtain ⟨o, hol, rfl, hown, hoF, hkr, hrowr, hdis⟩ := hrel
            obtain ⟨op, oc, rfl, _, hoc⟩ := hown.shape
            have HOF := Lib.hid hoF
            clear hoF
            by_cases hnl : o.length < F.length
            · obtain ⟨g2, hp2, _, _, d1, d2⟩ := hrowr.at_ hnl
              subst hp2
              obtain ⟨⟨ya, yb⟩, hy⟩ : ∃ y, F.getD o.length (0, 0) = y := ⟨_, rfl⟩
              have hyt : ya < 1048560 := by
                have hm := HFT.out (F.getD o.length (0, 0)) (by simp only [List.getD_eq_getElem?_getD, List.getElem?_eq_getElem hnl, Option.getD_some]; exact List.getElem_mem _)
                rwa [hy] at hm
              rw [hy] at d1 d2
              simp only [] at d1 d2
              unfold bv at d2
              have HY := Lib.hid hy
              clear hy
              by_cases he : ya = o.length
              · have hbe : ((ya : Int) == o.length) = true := by rw [beq_iff_eq]; omega
                have HE := Lib.hid he
                clear he
                go_wp2_with (at_builtin; go_must (refine wpList_append_bytes rfl (.tmp 115) (.tmp 121) 32 rfl 5 Try.underlying32 infoU8 w.heap.size o [yb] (o ++ [yb]) (o.length + 1) rfl rfl (own_alloc hown _) (byt_new wr [yb] _ (by unfold maxLen; simp)) rfl ?_ ?_ ?_ ?_; omega; omega; (have := hkr.size; simp; omega); intro p5 c5 w5 hown5 hk5 hob5))
                go_roundw
                case rel =>
                  have hlt := hrowr.lt
                  have ka : Kp (obp op) wr w5 := (show Kp (obp op) wr _ from (Kp.refl _ _).alloc _).trans hk5
                  refine ⟨o ++ [yb], by simp only [List.length_append, List.length_singleton]; omega, by first | (simp; done) | (simp; go_num), by simpa using hown5, ?_, hkr.trans' ka (by simp) (fun i hi => .inr (hown.lt i (by rw [ob_slice]; exact hi)).1), hrowr.kp ka (fun i hi hm => hdis i (by rw [ob_slice]; exact hm) (by rw [ob_slice] at hi; exact hi)), ?_⟩
                  · intro j hj
                    rw [List.length_append, List.length_singleton] at hj
                    by_cases h5 : j < o.length
                    · rw [HOF.out j h5]
                      simp [List.getD_eq_getElem?_getD, List.getElem?_append_left h5]
                    · obtain rfl : j = o.length := by omega
                      have h6 := HY.out
                      simp only [List.getD_eq_getElem?_getD, List.getElem?_eq_getElem hnl, Option.getD_some] at h6
                      rw [List.getElem?_eq_getElem hnl, h6, HE.out]
                      simp [List.getD_eq_getElem?_getD]
                  · intro i hi hm
                    rw [ob_slice] at hi
                    rcases hob5 with h5 | h5
                    · rw [h5] at hi; exact hdis i (by rw [ob_slice]; exact hi) hm
                    · rw [h5] at hi
                      have := (hlt i (by rw [ob_slice]; exact hm)).2
                      simp at hi
                      omega
                case measure => simp [intOf] <;> omega
              · have hbe : ((ya : Int) == o.length) = false := by rw [beq_eq_false_iff_ne]; omega
                have HSTOP := Lib.hid (show o.length < F.length → (F.getD o.length (0, 0)).1 ≠ o.length from fun _ => by rw [HY.out]; exact he)
                clear he
                have hblk := hkr.blk HH.out.blk (by simp)
                have z1 := hblk.cell (off := 0) rfl
                have zf := hblk.frozen 0
                have HBL := Lib.hid hblk
                clear hblk
                have hRef := ref_ok HFU.out HOF.out hol HSTOP.out
                have HREF := Lib.hid hRef
                obtain ⟨T, hT⟩ : ∃ T, (F.drop o.length).map (fun p => (p.1 - o.length, p.2)) = T := ⟨_, rfl⟩
                have HTT := Lib.hid hT
                have hTl : T.length = F.length - o.length := by rw [← hT]; simp
                have hTU : Up T := by rw [← hT]; exact hRef.up
                have hTop : ∀ p ∈ T, p.1 < 1048560 := by
                  intro p hp
                  rw [← hT] at hp
                  obtain ⟨q, hq, rfl⟩ := List.mem_map.1 hp
                  have := HFT.out q (List.mem_of_mem_drop hq)
                  simp only []
                  omega
                have HTL := Lib.hid hTl
                have HTU := Lib.hid hTU
                have HTOP := Lib.hid hTop
                clear hRef hT hTl hTU hTop
                obtain ⟨w9, hw9⟩ : ∃ w9, w9 = wr := ⟨_, rfl⟩
                subst hw9
                go_wp2
                go_loopw [13] (fun iv wx => ∃ (i : Nat) (lv : Value), o.length ≤ i ∧ i ≤ F.length ∧ iv = .int .i64 i ∧ Blk wx b [lv] 64 ∧ RowP wx w.heap.size lv (T.take (i - o.length)) ∧ Kp [b] w wx ∧ RowP wx w.heap.size (.slice (some ⟨g2, 0, none⟩) F.length c2) F ∧ OwnB wx w.heap.size 5 (.slice op o.length oc) o ∧ ∀ i, i ∈ ob lv → i ∉ obp (some ⟨g2, 0, none⟩)) (fun iv _ => F.length - (intOf iv).toNat)
                case atStart =>
                  have hbw := HH.out.blk.lt
                  have ks : Kp [b] w9 (w9.setCell ⟨b, 0, none⟩ (.slice none 0 0)) := (Kp.refl _ _).setCell (.inl (by simp)) _
                  refine ⟨o.length, .slice none 0 0, Nat.le_refl _, hol, rfl, by simpa using HBL.out.set 0 (.slice none 0 0), by rw [Nat.sub_self]; exact RowP.nil _ _, (hkr.mono (by simp)).trans ks, hrowr.kp ks (fun i hi => by have := (hrowr.lt i hi).1; simp; omega), hown.kp ks (fun i hi => by have := (hown.lt i hi).1; simp; omega), by simp [ob, Value.ownBlock]⟩
                case round =>
                  obtain ⟨i, lv, hi1, hi2, rfl, hbx, hlx, hkx, hfx, hox, hdx⟩ := hrel
                  obtain ⟨lp, lc, rfl⟩ := hlx.shape
                  have y1 := hbx.cell (off := 0) rfl
                  by_cases hif : i < F.length
                  · obtain ⟨g3, hp3, _, _, d1, d2⟩ := hfx.at_ hif
                    have hge := idx_le HFU.out i hif
                    have hTi := tail_next (o := o) hif hi1
                    rw [HTT.out] at hTi
                    obtain ⟨⟨ya, yb⟩, hy⟩ : ∃ y, F.getD i (0, 0) = y := ⟨_, rfl⟩
                    have hyt : ya < 1048560 := by
                      have hm := HFT.out (F.getD i (0, 0)) (by simp only [List.getD_eq_getElem?_getD, List.getElem?_eq_getElem hif, Option.getD_some]; exact List.getElem_mem _)
                      rwa [hy] at hm
                    rw [hy] at d1 d2 hge hTi
                    simp only [] at d1 d2 hge hTi
                    unfold bv at d2
                    have HTI := Lib.hid hTi
                    have htl : (T.take (i - o.length)).length = i - o.length := by simp; have := HTL.out; omega
                    rw [htl] at y1 hbx hlx hdx
                    have HXL := Lib.hid htl
                    have hlx' := hlx
                    unfold RowP at hlx'
                    rw [htl] at hlx'
                    have cA : ∀ n x, ((wr.drewN n).alloc x).cell? ⟨b, 0, none⟩ = some (.slice lp (i - o.length) lc) := fun n x => ((hbx.drewN n).alloc x).cell rfl
                    have eN : ((ya - o.length : Nat) : Int) = (ya : Int) - o.length := by omega
                    have HEN := Lib.hid eN
                    have hbl2 := hbx.lt
                    have hkx0 := hkx.size
                    have hlc := (RowP.cap hlx).2.1
                    clear hy hTi htl eN
                    first | subst hp3 | (simp only [Option.some.injEq, Addr.mk.injEq, and_true] at hp3; subst hp3)
                    go_wp2
                    refine wp_region_mix [([0, 1, 5, 6, 10, 12, 13, 2, 7, 14, 3, 8, 15, 4, 9, 16, 11], [17], [2, 3, 4]), ([], [18], [2, 3, 4]), ([], [19, 20, 21, 22], [])] (by kernel_rfl) (by kernel_rfl) ?_
                    refine mix_cons (by repeat (first | exact pick_end | apply (pick_step rfl))) (by repeat (first | exact pick_end | apply (pick_step rfl))) (by repeat (first | exact pick_end | apply (pick_step rfl))) ?_
                    repeat (go_big_quiet_step (fail))
                    refine wpQuiet_nil ?_
                    intro nq
                    go_wp2_with fail
                    try simp only [Act.put, List.setIfInBounds_toArray, List.set_cons_zero, List.set_cons_succ]
                    refine ⟨?_, ?_⟩
                    · unfold AgainAll; repeat (go_big_quiet_step (fail))
                      exact again_end
                    refine mix_cons (by repeat (first | exact pick_end | apply (pick_step rfl))) (by repeat (first | exact pick_end | apply (pick_step rfl))) (by repeat (first | exact pick_end | apply (pick_step rfl))) ?_
                    refine wpQuiet_nil ?_
                    intro nq
                    go_wp2_with fail
                    try simp only [Act.put, List.setIfInBounds_toArray, List.set_cons_zero, List.set_cons_succ]
                    refine ⟨?_, ?_⟩
                    · unfold AgainAll; repeat (go_big_quiet_step (fail))
                      exact again_end
                    refine mix_cons' (by repeat (first | exact pick_end | apply (pick_step rfl))) (by repeat (first | exact pick_end | apply (pick_step rfl))) ?_
                    refine wpQuiet_nil ?_
                    intro nq
                    go_wp2_with (at_builtin; go_must (refine wpList_append_row rfl (.tmp 139) (.tmp 153) 62 rfl 72 Try.underlying62 infoPiece rfl (by omega) w.heap.size (cellsP (T.take (i - o.length))) [.int .i64 ((ya : Int) - o.length), .int .u8 yb.toNat] 72 (i - o.length + 1) rfl rfl (World.ownsRow.alloc (row_kp (L := []) hlx' (by repeat (first | exact Kp.refl _ _ | apply Kp.drewN | apply Kp.alloc)) (by simp)) _) (Blk.new _ _ _) rfl (by simp [Value.oneCell']) rfl ?_ ?_ ?_ ?_; omega; (unfold maxLen; omega); (simp; omega); intro p5 c5 w5 hrow5 hk5 hob5; have hlpb : b ∉ obp lp := (fun hm => by have h5 := (hlx.lt b (by rw [ob_slice]; exact hm)).1; have h6 := HH.out.blk.lt; omega); have hk15 : Kp (obp lp) wr w5 := (show Kp (obp lp) wr _ from (by repeat (first | exact Kp.refl _ _ | apply Kp.drewN | apply Kp.alloc))).trans hk5; have hb5 := hk15.blk hbx hlpb; have v1 := hb5.cell (off := 0) rfl; have v2 := hb5.frozen 0))
                    refine mix_nil ?_
                    go_wp2_with fail
                    go_roundw
                    case rel =>
                      have hs15 := hk15.size
                      have hbp5 : b ∉ obp p5 := by
                        intro hm
                        rcases hob5 with h5 | h5
                        · rw [h5] at hm; exact hlpb hm
                        · rw [h5] at hm
                          simp at hm
                          omega
                      have hlx2 := hlx.lt
                      rw [ob_slice] at hlx2
                      have ks : Kp [b] w5 (w5.setCell ⟨b, 0, none⟩ (.slice p5 (i - o.length + 1) c5)) := (Kp.refl _ _).setCell (.inl (by simp)) _
                      have hrow6 : RowP w5 w.heap.size (.slice p5 (i - o.length + 1) c5) (T.take (i + 1 - o.length)) := by
                        rw [HTI.out]
                        unfold RowP
                        rw [List.length_append, HXL.out, cellsP_append, List.length_singleton]
                        rw [← HEN.out] at hrow5
                        exact hrow5
                      refine ⟨i + 1, _, by omega, by omega, by go_num, by simpa using hb5.set 0 (.slice p5 (i - o.length + 1) c5), hrow6.kp ks (fun j hj hm => by rw [ob_slice] at hj; simp at hm; subst hm; exact hbp5 hj), (show Kp [b] w w5 from hkx.trans' hk15 (fun j hj => .inl hj) (fun j hj => .inr (hlx2 j hj).1)).trans ks, (hfx.kp hk15 (fun j hj hm => hdx j (by rw [ob_slice]; exact hm) (by rw [ob_slice] at hj; exact hj))).kp ks (fun j hj hm => by have := (hfx.lt j hj).1; have := HH.out.blk.lt; simp at hm; omega), (hox.kp hk15 (fun j hj hm => row_ne hox hlx (by decide) j hj (by rw [ob_slice]; exact hm))).kp ks (fun j hj hm => by have := (hox.lt j hj).1; have := HH.out.blk.lt; simp at hm; omega), ?_⟩
                      intro j hj hm
                      rw [ob_slice] at hj
                      rcases hob5 with h5 | h5
                      · rw [h5] at hj; exact hdx j (by rw [ob_slice]; exact hj) hm
                      · rw [h5] at hj
                        have := (hfx.lt j (by rw [ob_slice]; exact hm)).2
                        simp at hj
                        omega
                    case measure => simp [intOf] <;> omega
                  · have hTe : T.take (i - o.length) = T := List.take_of_length_le (by have := HTL.out; omega)
                    rw [hTe] at hlx hbx hdx y1
                    clear hTe
                    go_wp2
                    go_ret
                    refine ⟨_, _, o, T, rfl, hox, ⟨hbx, hlx.mono (Nat.zero_le _), fun hm => by have := (hlx.lt _ hm).1; have := HH.out.blk.lt; omega, HTU.out, HTOP.out⟩, ?_, hkx, fun i hi => .inr (hlx.lt i hi).1, fun i hi => row_ne hox hlx (by decide) i hi⟩
                    rw [← HTT.out, show (fun x => (getL L x).or (brings ahead bs x)) = getL F from funext fun x => (HFI.out x).symm]
                    exact HREF.out
            · have HSTOP := Lib.hid (show o.length < F.length → (F.getD o.length (0, 0)).1 ≠ o.length from fun h => absurd h hnl)
              have hblk := hkr.blk HH.out.blk (by simp)
              have z1 := hblk.cell (off := 0) rfl
              have zf := hblk.frozen 0
              have HBL := Lib.hid hblk
              clear hblk
              have hRef := ref_ok HFU.out HOF.out hol HSTOP.out
              have HREF := Lib.hid hRef
              obtain ⟨T, hT⟩ : ∃ T, (F.drop o.length).map (fun p => (p.1 - o.length, p.2)) = T := ⟨_, rfl⟩
              have HTT := Lib.hid hT
              have hTl : T.length = F.length - o.length := by rw [← hT]; simp
              have hTU : Up T := by rw [← hT]; exact hRef.up
              have hTop : ∀ p ∈ T, p.1 < 1048560 := by
                intro p hp
                rw [← hT] at hp
                obtain ⟨q, hq, rfl⟩ := List.mem_map.1 hp
                have := HFT.out q (List.mem_of_mem_drop hq)
                simp only []
                omega
              have HTL := Lib.hid hTl
              have HTU := Lib.hid hTU
              have HTOP := Lib.hid hTop
              clear hRef hT hTl hTU hTop
              obtain ⟨w9, hw9⟩ : ∃ w9, w9 = wr := ⟨_, rfl⟩
              subst hw9
              go_wp2
              go_loopw [13] (fun iv wx => ∃ (i : Nat) (lv : Value), o.length ≤ i ∧ i ≤ F.length ∧ iv = .int .i64 i ∧ Blk wx b [lv] 64 ∧ RowP wx w.heap.size lv (T.take (i - o.length)) ∧ Kp [b] w wx ∧ RowP wx w.heap.size (.slice p2 F.length c2) F ∧ OwnB wx w.heap.size 5 (.slice op o.length oc) o ∧ ∀ i, i ∈ ob lv → i ∉ obp p2) (fun iv _ => F.length - (intOf iv).toNat)
              case atStart =>
                have hbw := HH.out.blk.lt
                have ks : Kp [b] w9 (w9.setCell ⟨b, 0, none⟩ (.slice none 0 0)) := (Kp.refl _ _).setCell (.inl (by simp)) _
                refine ⟨o.length, .slice none 0 0, Nat.le_refl _, hol, rfl, by simpa using HBL.out.set 0 (.slice none 0 0), by rw [Nat.sub_self]; exact RowP.nil _ _, (hkr.mono (by simp)).trans ks, hrowr.kp ks (fun i hi => by have := (hrowr.lt i hi).1; simp; omega), hown.kp ks (fun i hi => by have := (hown.lt i hi).1; simp; omega), by simp [ob, Value.ownBlock]⟩
              case round =>
                obtain ⟨i, lv, hi1, hi2, rfl, hbx, hlx, hkx, hfx, hox, hdx⟩ := hrel
                obtain ⟨lp, lc, rfl⟩ := hlx.shape
                have y1 := hbx.cell (off := 0) rfl
                by_cases hif : i < F.length
                · exfalso; omega
                · have hTe : T.take (i - o.length) = T := List.take_of_length_le (by have := HTL.out; omega)
                  rw [hTe] at hlx hbx hdx y1
                  clear hTe
                  go_wp2
                  go_ret
                  refine ⟨_, _, o, T, rfl, hox, ⟨hbx, hlx.mono (Nat.zero_le _), fun hm => by have := (hlx.lt _ hm).1; have := HH.out.blk.lt; omega, HTU.out, HTOP.out⟩, ?_, hkx, fun i hi => .inr (hlx.lt i hi).1, fun i hi => row_ne hox hlx (by decide) i hi⟩
                  rw [← HTT.out, show (fun x => (getL L x).or (brings ahead bs x)) = getL F from funext fun x => (HFI.out x).symm]
                  exact HREF.out
        | some a0 =>
          go_wp2_with (at_builtin; go_must (refine wpList_append_cells rfl (.tmp 94) (.tmp 100) 62 rfl 72 Try.underlying62 infoPiece rfl (by omega) w.heap.size (cellsP m) [] F.length rfl rfl hrow (.inr ⟨a0, rfl, fun j u hj => by simp at hj⟩) (by simp <;> omega) (by simp) (by omega) ?_ ?_ ?_ ?_; omega; (unfold maxLen; omega); omega; intro p2 c2 w2 hrow2' hk2 hob2))
          have hrow2 : RowP w2 w.heap.size (.slice p2 F.length c2) F := by unfold RowP; rw [HFM.out]; exact hrow2'
          have kk2 : Kp [] w w2 := hkp.trans' hk2 (by simp) (fun i hi => .inr (hrow.lt i (by rw [ob_slice]; exact hi)).1)
          clear hrow2' hk2 hob2 y1 hrow hkp
          have HROW2 := Lib.hid hrow2
          clear hrow2
          go_wp2
          go_loopw [11, 12] (fun ov nv wr => ∃ (o : List UInt8), o.length ≤ F.length ∧ nv = .int .i64 o.length ∧ OwnB wr w.heap.size 5 ov o ∧ (∀ j, j < o.length → F[j]? = some (j, o.getD j 0)) ∧ Kp [] w wr ∧ RowP wr w.heap.size (.slice p2 F.length c2) F ∧ ∀ i, i ∈ ob ov → i ∉ obp p2) (fun _ nv _ => F.length - (intOf nv).toNat)
          case atStart => exact ⟨[], Nat.zero_le _, rfl, World.ownsRow_nil _ _ _ _, by simp, kk2, HROW2.out, by simp [ob, Value.ownBlock]⟩
          case round =>
            obtain ⟨o, hol, rfl, hown, hoF, hkr, hrowr, hdis⟩ := hrel
            obtain ⟨op, oc, rfl, _, hoc⟩ := hown.shape
            have HOF := Lib.hid hoF
            clear hoF
            by_cases hnl : o.length < F.length
            · obtain ⟨g2, hp2, _, _, d1, d2⟩ := hrowr.at_ hnl
              subst hp2
              obtain ⟨⟨ya, yb⟩, hy⟩ : ∃ y, F.getD o.length (0, 0) = y := ⟨_, rfl⟩
              have hyt : ya < 1048560 := by
                have hm := HFT.out (F.getD o.length (0, 0)) (by simp only [List.getD_eq_getElem?_getD, List.getElem?_eq_getElem hnl, Option.getD_some]; exact List.getElem_mem _)
                rwa [hy] at hm
              rw [hy] at d1 d2
              simp only [] at d1 d2
              unfold bv at d2
              have HY := Lib.hid hy
              clear hy
              by_cases he : ya = o.length
              · have hbe : ((ya : Int) == o.length) = true := by rw [beq_iff_eq]; omega
                have HE := Lib.hid he
                clear he
                go_wp2_with (at_builtin; go_must (refine wpList_append_bytes rfl (.tmp 115) (.tmp 121) 32 rfl 5 Try.underlying32 infoU8 w.heap.size o [yb] (o ++ [yb]) (o.length + 1) rfl rfl (own_alloc hown _) (byt_new wr [yb] _ (by unfold maxLen; simp)) rfl ?_ ?_ ?_ ?_; omega; omega; (have := hkr.size; simp; omega); intro p5 c5 w5 hown5 hk5 hob5))
                go_roundw
                case rel =>
                  have hlt := hrowr.lt
                  have ka : Kp (obp op) wr w5 := (show Kp (obp op) wr _ from (Kp.refl _ _).alloc _).trans hk5
                  refine ⟨o ++ [yb], by simp only [List.length_append, List.length_singleton]; omega, by first | (simp; done) | (simp; go_num), by simpa using hown5, ?_, hkr.trans' ka (by simp) (fun i hi => .inr (hown.lt i (by rw [ob_slice]; exact hi)).1), hrowr.kp ka (fun i hi hm => hdis i (by rw [ob_slice]; exact hm) (by rw [ob_slice] at hi; exact hi)), ?_⟩
                  · intro j hj
                    rw [List.length_append, List.length_singleton] at hj
                    by_cases h5 : j < o.length
                    · rw [HOF.out j h5]
                      simp [List.getD_eq_getElem?_getD, List.getElem?_append_left h5]
                    · obtain rfl : j = o.length := by omega
                      have h6 := HY.out
                      simp only [List.getD_eq_getElem?_getD, List.getElem?_eq_getElem hnl, Option.getD_some] at h6
                      rw [List.getElem?_eq_getElem hnl, h6, HE.out]
                      simp [List.getD_eq_getElem?_getD]
                  · intro i hi hm
                    rw [ob_slice] at hi
                    rcases hob5 with h5 | h5
                    · rw [h5] at hi; exact hdis i (by rw [ob_slice]; exact hi) hm
                    · rw [h5] at hi
                      have := (hlt i (by rw [ob_slice]; exact hm)).2
                      simp at hi
                      omega
                case measure => simp [intOf] <;> omega
              · have hbe : ((ya : Int) == o.length) = false := by rw [beq_eq_false_iff_ne]; omega
                have HSTOP := Lib.hid (show o.length < F.length → (F.getD o.length (0, 0)).1 ≠ o.length from fun _ => by rw [HY.out]; exact he)
                clear he
                have hblk := hkr.blk HH.out.blk (by simp)
                have z1 := hblk.cell (off := 0) rfl
                have zf := hblk.frozen 0
                have HBL := Lib.hid hblk
                clear hblk
                have hRef := ref_ok HFU.out HOF.out hol HSTOP.out
                have HREF := Lib.hid hRef
                obtain ⟨T, hT⟩ : ∃ T, (F.drop o.length).map (fun p => (p.1 - o.length, p.2)) = T := ⟨_, rfl⟩
                have HTT := Lib.hid hT
                have hTl : T.length = F.length - o.length := by rw [← hT]; simp
                have hTU : Up T := by rw [← hT]; exact hRef.up
                have hTop : ∀ p ∈ T, p.1 < 1048560 := by
                  intro p hp
                  rw [← hT] at hp
                  obtain ⟨q, hq, rfl⟩ := List.mem_map.1 hp
                  have := HFT.out q (List.mem_of_mem_drop hq)
                  simp only []
                  omega
                have HTL := Lib.hid hTl
                have HTU := Lib.hid hTU
                have HTOP := Lib.hid hTop
                clear hRef hT hTl hTU hTop
                obtain ⟨w9, hw9⟩ : ∃ w9, w9 = wr := ⟨_, rfl⟩
                subst hw9
                go_wp2
                go_loopw [13] (fun iv wx => ∃ (i : Nat) (lv : Value), o.length ≤ i ∧ i ≤ F.length ∧ iv = .int .i64 i ∧ Blk wx b [lv] 64 ∧ RowP wx w.heap.size lv (T.take (i - o.length)) ∧ Kp [b] w wx ∧ RowP wx w.heap.size (.slice (some ⟨g2, 0, none⟩) F.length c2) F ∧ OwnB wx w.heap.size 5 (.slice op o.length oc) o ∧ ∀ i, i ∈ ob lv → i ∉ obp (some ⟨g2, 0, none⟩)) (fun iv _ => F.length - (intOf iv).toNat)
                case atStart =>
                  have hbw := HH.out.blk.lt
                  have ks : Kp [b] w9 (w9.setCell ⟨b, 0, none⟩ (.slice none 0 0)) := (Kp.refl _ _).setCell (.inl (by simp)) _
                  refine ⟨o.length, .slice none 0 0, Nat.le_refl _, hol, rfl, by simpa using HBL.out.set 0 (.slice none 0 0), by rw [Nat.sub_self]; exact RowP.nil _ _, (hkr.mono (by simp)).trans ks, hrowr.kp ks (fun i hi => by have := (hrowr.lt i hi).1; simp; omega), hown.kp ks (fun i hi => by have := (hown.lt i hi).1; simp; omega), by simp [ob, Value.ownBlock]⟩
                case round =>
                  obtain ⟨i, lv, hi1, hi2, rfl, hbx, hlx, hkx, hfx, hox, hdx⟩ := hrel
                  obtain ⟨lp, lc, rfl⟩ := hlx.shape
                  have y1 := hbx.cell (off := 0) rfl
                  by_cases hif : i < F.length
                  · obtain ⟨g3, hp3, _, _, d1, d2⟩ := hfx.at_ hif
                    have hge := idx_le HFU.out i hif
                    have hTi := tail_next (o := o) hif hi1
                    rw [HTT.out] at hTi
                    obtain ⟨⟨ya, yb⟩, hy⟩ : ∃ y, F.getD i (0, 0) = y := ⟨_, rfl⟩
                    have hyt : ya < 1048560 := by
                      have hm := HFT.out (F.getD i (0, 0)) (by simp only [List.getD_eq_getElem?_getD, List.getElem?_eq_getElem hif, Option.getD_some]; exact List.getElem_mem _)
                      rwa [hy] at hm
                    rw [hy] at d1 d2 hge hTi
                    simp only [] at d1 d2 hge hTi
                    unfold bv at d2
                    have HTI := Lib.hid hTi
                    have htl : (T.take (i - o.length)).length = i - o.length := by simp; have := HTL.out; omega
                    rw [htl] at y1 hbx hlx hdx
                    have HXL := Lib.hid htl
                    have hlx' := hlx
                    unfold RowP at hlx'
                    rw [htl] at hlx'
                    have cA : ∀ n x, ((wr.drewN n).alloc x).cell? ⟨b, 0, none⟩ = some (.slice lp (i - o.length) lc) := fun n x => ((hbx.drewN n).alloc x).cell rfl
                    have eN : ((ya - o.length : Nat) : Int) = (ya : Int) - o.length := by omega
                    have HEN := Lib.hid eN
                    have hbl2 := hbx.lt
                    have hkx0 := hkx.size
                    have hlc := (RowP.cap hlx).2.1
                    clear hy hTi htl eN
                    first | subst hp3 | (simp only [Option.some.injEq, Addr.mk.injEq, and_true] at hp3; subst hp3)
                    go_wp2
                    refine wp_region_mix [([0, 1, 5, 6, 10, 12, 13, 2, 7, 14, 3, 8, 15, 4, 9, 16, 11], [17], [2, 3, 4]), ([], [18], [2, 3, 4]), ([], [19, 20, 21, 22], [])] (by kernel_rfl) (by kernel_rfl) ?_
                    refine mix_cons (by repeat (first | exact pick_end | apply (pick_step rfl))) (by repeat (first | exact pick_end | apply (pick_step rfl))) (by repeat (first | exact pick_end | apply (pick_step rfl))) ?_
                    repeat (go_big_quiet_step (fail))
                    refine wpQuiet_nil ?_
                    intro nq
                    go_wp2_with fail
                    try simp only [Act.put, List.setIfInBounds_toArray, List.set_cons_zero, List.set_cons_succ]
                    refine ⟨?_, ?_⟩
                    · unfold AgainAll; repeat (go_big_quiet_step (fail))
                      exact again_end
                    refine mix_cons (by repeat (first | exact pick_end | apply (pick_step rfl))) (by repeat (first | exact pick_end | apply (pick_step rfl))) (by repeat (first | exact pick_end | apply (pick_step rfl))) ?_
                    refine wpQuiet_nil ?_
                    intro nq
                    go_wp2_with fail
                    try simp only [Act.put, List.setIfInBounds_toArray, List.set_cons_zero, List.set_cons_succ]
                    refine ⟨?_, ?_⟩
                    · unfold AgainAll; repeat (go_big_quiet_step (fail))
                      exact again_end
                    refine mix_cons' (by repeat (first | exact pick_end | apply (pick_step rfl))) (by repeat (first | exact pick_end | apply (pick_step rfl))) ?_
                    refine wpQuiet_nil ?_
                    intro nq
                    go_wp2_with (at_builtin; go_must (refine wpList_append_row rfl (.tmp 139) (.tmp 153) 62 rfl 72 Try.underlying62 infoPiece rfl (by omega) w.heap.size (cellsP (T.take (i - o.length))) [.int .i64 ((ya : Int) - o.length), .int .u8 yb.toNat] 72 (i - o.length + 1) rfl rfl (World.ownsRow.alloc (row_kp (L := []) hlx' (by repeat (first | exact Kp.refl _ _ | apply Kp.drewN | apply Kp.alloc)) (by simp)) _) (Blk.new _ _ _) rfl (by simp [Value.oneCell']) rfl ?_ ?_ ?_ ?_; omega; (unfold maxLen; omega); (simp; omega); intro p5 c5 w5 hrow5 hk5 hob5; have hlpb : b ∉ obp lp := (fun hm => by have h5 := (hlx.lt b (by rw [ob_slice]; exact hm)).1; have h6 := HH.out.blk.lt; omega); have hk15 : Kp (obp lp) wr w5 := (show Kp (obp lp) wr _ from (by repeat (first | exact Kp.refl _ _ | apply Kp.drewN | apply Kp.alloc))).trans hk5; have hb5 := hk15.blk hbx hlpb; have v1 := hb5.cell (off := 0) rfl; have v2 := hb5.frozen 0))
                    refine mix_nil ?_
                    go_wp2_with fail
                    go_roundw
                    case rel =>
                      have hs15 := hk15.size
                      have hbp5 : b ∉ obp p5 := by
                        intro hm
                        rcases hob5 with h5 | h5
                        · rw [h5] at hm; exact hlpb hm
                        · rw [h5] at hm
                          simp at hm
                          omega
                      have hlx2 := hlx.lt
                      rw [ob_slice] at hlx2
                      have ks : Kp [b] w5 (w5.setCell ⟨b, 0, none⟩ (.slice p5 (i - o.length + 1) c5)) := (Kp.refl _ _).setCell (.inl (by simp)) _
                      have hrow6 : RowP w5 w.heap.size (.slice p5 (i - o.length + 1) c5) (T.take (i + 1 - o.length)) := by
                        rw [HTI.out]
                        unfold RowP
                        rw [List.length_append, HXL.out, cellsP_append, List.length_singleton]
                        rw [← HEN.out] at hrow5
                        exact hrow5
                      refine ⟨i + 1, _, by omega, by omega, by go_num, by simpa using hb5.set 0 (.slice p5 (i - o.length + 1) c5), hrow6.kp ks (fun j hj hm => by rw [ob_slice] at hj; simp at hm; subst hm; exact hbp5 hj), (show Kp [b] w w5 from hkx.trans' hk15 (fun j hj => .inl hj) (fun j hj => .inr (hlx2 j hj).1)).trans ks, (hfx.kp hk15 (fun j hj hm => hdx j (by rw [ob_slice]; exact hm) (by rw [ob_slice] at hj; exact hj))).kp ks (fun j hj hm => by have := (hfx.lt j hj).1; have := HH.out.blk.lt; simp at hm; omega), (hox.kp hk15 (fun j hj hm => row_ne hox hlx (by decide) j hj (by rw [ob_slice]; exact hm))).kp ks (fun j hj hm => by have := (hox.lt j hj).1; have := HH.out.blk.lt; simp at hm; omega), ?_⟩
                      intro j hj hm
                      rw [ob_slice] at hj
                      rcases hob5 with h5 | h5
                      · rw [h5] at hj; exact hdx j (by rw [ob_slice]; exact hj) hm
                      · rw [h5] at hj
                        have := (hfx.lt j (by rw [ob_slice]; exact hm)).2
                        simp at hj
                        omega
                    case measure => simp [intOf] <;> omega
                  · have hTe : T.take (i - o.length) = T := List.take_of_length_le (by have := HTL.out; omega)
                    rw [hTe] at hlx hbx hdx y1
                    clear hTe
                    go_wp2
                    go_ret
                    refine ⟨_, _, o, T, rfl, hox, ⟨hbx, hlx.mono (Nat.zero_le _), fun hm => by have := (hlx.lt _ hm).1; have := HH.out.blk.lt; omega, HTU.out, HTOP.out⟩, ?_, hkx, fun i hi => .inr (hlx.lt i hi).1, fun i hi => row_ne hox hlx (by decide) i hi⟩
                    rw [← HTT.out, show (fun x => (getL L x).or (brings ahead bs x)) = getL F from funext fun x => (HFI.out x).symm]
                    exact HREF.out
            · have HSTOP := Lib.hid (show o.length < F.length → (F.getD o.length (0, 0)).1 ≠ o.length from fun h => absurd h hnl)
              have hblk := hkr.blk HH.out.blk (by simp)
              have z1 := hblk.cell (off := 0) rfl
              have zf := hblk.frozen 0
              have HBL := Lib.hid hblk
              clear hblk
              have hRef := ref_ok HFU.out HOF.out hol HSTOP.out
              have HREF := Lib.hid hRef
              obtain ⟨T, hT⟩ : ∃ T, (F.drop o.length).map (fun p => (p.1 - o.length, p.2)) = T := ⟨_, rfl⟩
              have HTT := Lib.hid hT
              have hTl : T.length = F.length - o.length := by rw [← hT]; simp
              have hTU : Up T := by rw [← hT]; exact hRef.up
              have hTop : ∀ p ∈ T, p.1 < 1048560 := by
                intro p hp
                rw [← hT] at hp
                obtain ⟨q, hq, rfl⟩ := List.mem_map.1 hp
                have := HFT.out q (List.mem_of_mem_drop hq)
                simp only []
                omega
              have HTL := Lib.hid hTl
              have HTU := Lib.hid hTU
              have HTOP := Lib.hid hTop
              clear hRef hT hTl hTU hTop
              obtain ⟨w9, hw9⟩ : ∃ w9, w9 = wr := ⟨_, rfl⟩
              subst hw9
              go_wp2
              go_loopw [13] (fun iv wx => ∃ (i : Nat) (lv : Value), o.length ≤ i ∧ i ≤ F.length ∧ iv = .int .i64 i ∧ Blk wx b [lv] 64 ∧ RowP wx w.heap.size lv (T.take (i - o.length)) ∧ Kp [b] w wx ∧ RowP wx w.heap.size (.slice p2 F.length c2) F ∧ OwnB wx w.heap.size 5 (.slice op o.length oc) o ∧ ∀ i, i ∈ ob lv → i ∉ obp p2) (fun iv _ => F.length - (intOf iv).toNat)
              case atStart =>
                have hbw := HH.out.blk.lt
                have ks : Kp [b] w9 (w9.setCell ⟨b, 0, none⟩ (.slice none 0 0)) := (Kp.refl _ _).setCell (.inl (by simp)) _
                refine ⟨o.length, .slice none 0 0, Nat.le_refl _, hol, rfl, by simpa using HBL.out.set 0 (.slice none 0 0), by rw [Nat.sub_self]; exact RowP.nil _ _, (hkr.mono (by simp)).trans ks, hrowr.kp ks (fun i hi => by have := (hrowr.lt i hi).1; simp; omega), hown.kp ks (fun i hi => by have := (hown.lt i hi).1; simp; omega), by simp [ob, Value.ownBlock]⟩
              case round =>
                obtain ⟨i, lv, hi1, hi2, rfl, hbx, hlx, hkx, hfx, hox, hdx⟩ := hrel
                obtain ⟨lp, lc, rfl⟩ := hlx.shape
                have y1 := hbx.cell (off := 0) rfl
                by_cases hif : i < F.length
                · exfalso; omega
                · have hTe : T.take (i - o.length) = T := List.take_of_length_le (by have := HTL.out; omega)
                  rw [hTe] at hlx hbx hdx y1
                  clear hTe
                  go_wp2
                  go_ret
                  refine ⟨_, _, o, T, rfl, hox, ⟨hbx, hlx.mono (Nat.zero_le _), fun hm => by have := (hlx.lt _ hm).1; have := HH.out.blk.lt; omega, HTU.out, HTOP.out⟩, ?_, hkx, fun i hi => .inr (hlx.lt i hi).1, fun i hi => row_ne hox hlx (by decide) i hi⟩
                  rw [← HTT.out, show (fun x => (getL L x).or (brings ahead bs x)) = getL F from funext fun x => (HFI.out x).symm]
                  exact HREF.out
      · have hkc2 : ¬ vc = k := by omega
        go_wp2_with (at_builtin; go_must (refine wpList_append_cells rfl (.tmp 94) (.tmp 100) 62 rfl 72 Try.underlying62 infoPiece rfl (by omega) w.heap.size (cellsP m) (cellsP (L.drop k)) F.length rfl rfl hrow (.inr (HRK.out.src hkc)) (by rw [cellsP_length, List.length_drop]) (cellsP_one _) (by omega) ?_ ?_ ?_ ?_; omega; (unfold maxLen; omega); omega; intro p2 c2 w2 hrow2' hk2 hob2))
        have hrow2 : RowP w2 w.heap.size (.slice p2 F.length c2) F := by unfold RowP; rw [HFC.out]; exact hrow2'
        have kk2 : Kp [] w w2 := hkp.trans' hk2 (by simp) (fun i hi => .inr (hrow.lt i (by rw [ob_slice]; exact hi)).1)
        clear hrow2' hk2 hob2 y1 hrow hkp
        have HROW2 := Lib.hid hrow2
        clear hrow2
        go_wp2
        go_loopw [11, 12] (fun ov nv wr => ∃ (o : List UInt8), o.length ≤ F.length ∧ nv = .int .i64 o.length ∧ OwnB wr w.heap.size 5 ov o ∧ (∀ j, j < o.length → F[j]? = some (j, o.getD j 0)) ∧ Kp [] w wr ∧ RowP wr w.heap.size (.slice p2 F.length c2) F ∧ ∀ i, i ∈ ob ov → i ∉ obp p2) (fun _ nv _ => F.length - (intOf nv).toNat)
        case atStart => exact ⟨[], Nat.zero_le _, rfl, World.ownsRow_nil _ _ _ _, by simp, kk2, HROW2.out, by simp [ob, Value.ownBlock]⟩
        case round =>
          obtain ⟨o, hol, rfl, hown, hoF, hkr, hrowr, hdis⟩ := hrel
          obtain ⟨op, oc, rfl, _, hoc⟩ := hown.shape
          have HOF := Lib.hid hoF
          clear hoF
          by_cases hnl : o.length < F.length
          · obtain ⟨g2, hp2, _, _, d1, d2⟩ := hrowr.at_ hnl
            subst hp2
            obtain ⟨⟨ya, yb⟩, hy⟩ : ∃ y, F.getD o.length (0, 0) = y := ⟨_, rfl⟩
            have hyt : ya < 1048560 := by
              have hm := HFT.out (F.getD o.length (0, 0)) (by simp only [List.getD_eq_getElem?_getD, List.getElem?_eq_getElem hnl, Option.getD_some]; exact List.getElem_mem _)
              rwa [hy] at hm
            rw [hy] at d1 d2
            simp only [] at d1 d2
            unfold bv at d2
            have HY := Lib.hid hy
            clear hy
            by_cases he : ya = o.length
            · have hbe : ((ya : Int) == o.length) = true := by rw [beq_iff_eq]; omega
              have HE := Lib.hid he
              clear he
              go_wp2_with (at_builtin; go_must (refine wpList_append_bytes rfl (.tmp 115) (.tmp 121) 32 rfl 5 Try.underlying32 infoU8 w.heap.size o [yb] (o ++ [yb]) (o.length + 1) rfl rfl (own_alloc hown _) (byt_new wr [yb] _ (by unfold maxLen; simp)) rfl ?_ ?_ ?_ ?_; omega; omega; (have := hkr.size; simp; omega); intro p5 c5 w5 hown5 hk5 hob5))
              go_roundw
              case rel =>
                have hlt := hrowr.lt
                have ka : Kp (obp op) wr w5 := (show Kp (obp op) wr _ from (Kp.refl _ _).alloc _).trans hk5
                refine ⟨o ++ [yb], by simp only [List.length_append, List.length_singleton]; omega, by first | (simp; done) | (simp; go_num), by simpa using hown5, ?_, hkr.trans' ka (by simp) (fun i hi => .inr (hown.lt i (by rw [ob_slice]; exact hi)).1), hrowr.kp ka (fun i hi hm => hdis i (by rw [ob_slice]; exact hm) (by rw [ob_slice] at hi; exact hi)), ?_⟩
                · intro j hj
                  rw [List.length_append, List.length_singleton] at hj
                  by_cases h5 : j < o.length
                  · rw [HOF.out j h5]
                    simp [List.getD_eq_getElem?_getD, List.getElem?_append_left h5]
                  · obtain rfl : j = o.length := by omega
                    have h6 := HY.out
                    simp only [List.getD_eq_getElem?_getD, List.getElem?_eq_getElem hnl, Option.getD_some] at h6
                    rw [List.getElem?_eq_getElem hnl, h6, HE.out]
                    simp [List.getD_eq_getElem?_getD]
                · intro i hi hm
                  rw [ob_slice] at hi
                  rcases hob5 with h5 | h5
                  · rw [h5] at hi; exact hdis i (by rw [ob_slice]; exact hi) hm
                  · rw [h5] at hi
                    have := (hlt i (by rw [ob_slice]; exact hm)).2
                    simp at hi
                    omega
              case measure => simp [intOf] <;> omega
            · have hbe : ((ya : Int) == o.length) = false := by rw [beq_eq_false_iff_ne]; omega
              have HSTOP := Lib.hid (show o.length < F.length → (F.getD o.length (0, 0)).1 ≠ o.length from fun _ => by rw [HY.out]; exact he)
              clear he
              have hblk := hkr.blk HH.out.blk (by simp)
              have z1 := hblk.cell (off := 0) rfl
              have zf := hblk.frozen 0
              have HBL := Lib.hid hblk
              clear hblk
              have hRef := ref_ok HFU.out HOF.out hol HSTOP.out
              have HREF := Lib.hid hRef
              obtain ⟨T, hT⟩ : ∃ T, (F.drop o.length).map (fun p => (p.1 - o.length, p.2)) = T := ⟨_, rfl⟩
              have HTT := Lib.hid hT
              have hTl : T.length = F.length - o.length := by rw [← hT]; simp
              have hTU : Up T := by rw [← hT]; exact hRef.up
              have hTop : ∀ p ∈ T, p.1 < 1048560 := by
                intro p hp
                rw [← hT] at hp
                obtain ⟨q, hq, rfl⟩ := List.mem_map.1 hp
                have := HFT.out q (List.mem_of_mem_drop hq)
                simp only []
                omega
              have HTL := Lib.hid hTl
              have HTU := Lib.hid hTU
              have HTOP := Lib.hid hTop
              clear hRef hT hTl hTU hTop
              obtain ⟨w9, hw9⟩ : ∃ w9, w9 = wr := ⟨_, rfl⟩
              subst hw9
              go_wp2
              go_loopw [13] (fun iv wx => ∃ (i : Nat) (lv : Value), o.length ≤ i ∧ i ≤ F.length ∧ iv = .int .i64 i ∧ Blk wx b [lv] 64 ∧ RowP wx w.heap.size lv (T.take (i - o.length)) ∧ Kp [b] w wx ∧ RowP wx w.heap.size (.slice (some ⟨g2, 0, none⟩) F.length c2) F ∧ OwnB wx w.heap.size 5 (.slice op o.length oc) o ∧ ∀ i, i ∈ ob lv → i ∉ obp (some ⟨g2, 0, none⟩)) (fun iv _ => F.length - (intOf iv).toNat)
              case atStart =>
                have hbw := HH.out.blk.lt
                have ks : Kp [b] w9 (w9.setCell ⟨b, 0, none⟩ (.slice none 0 0)) := (Kp.refl _ _).setCell (.inl (by simp)) _
                refine ⟨o.length, .slice none 0 0, Nat.le_refl _, hol, rfl, by simpa using HBL.out.set 0 (.slice none 0 0), by rw [Nat.sub_self]; exact RowP.nil _ _, (hkr.mono (by simp)).trans ks, hrowr.kp ks (fun i hi => by have := (hrowr.lt i hi).1; simp; omega), hown.kp ks (fun i hi => by have := (hown.lt i hi).1; simp; omega), by simp [ob, Value.ownBlock]⟩
              case round =>
                obtain ⟨i, lv, hi1, hi2, rfl, hbx, hlx, hkx, hfx, hox, hdx⟩ := hrel
                obtain ⟨lp, lc, rfl⟩ := hlx.shape
                have y1 := hbx.cell (off := 0) rfl
                by_cases hif : i < F.length
                · obtain ⟨g3, hp3, _, _, d1, d2⟩ := hfx.at_ hif
                  have hge := idx_le HFU.out i hif
                  have hTi := tail_next (o := o) hif hi1
                  rw [HTT.out] at hTi
                  obtain ⟨⟨ya, yb⟩, hy⟩ : ∃ y, F.getD i (0, 0) = y := ⟨_, rfl⟩
                  have hyt : ya < 1048560 := by
                    have hm := HFT.out (F.getD i (0, 0)) (by simp only [List.getD_eq_getElem?_getD, List.getElem?_eq_getElem hif, Option.getD_some]; exact List.getElem_mem _)
                    rwa [hy] at hm
                  rw [hy] at d1 d2 hge hTi
                  simp only [] at d1 d2 hge hTi
                  unfold bv at d2
                  have HTI := Lib.hid hTi
                  have htl : (T.take (i - o.length)).length = i - o.length := by simp; have := HTL.out; omega
                  rw [htl] at y1 hbx hlx hdx
                  have HXL := Lib.hid htl
                  have hlx' := hlx
                  unfold RowP at hlx'
                  rw [htl] at hlx'
                  have cA : ∀ n x, ((wr.drewN n).alloc x).cell? ⟨b, 0, none⟩ = some (.slice lp (i - o.length) lc) := fun n x => ((hbx.drewN n).alloc x).cell rfl
                  have eN : ((ya - o.length : Nat) : Int) = (ya : Int) - o.length := by omega
                  have HEN := Lib.hid eN
                  have hbl2 := hbx.lt
                  have hkx0 := hkx.size
                  have hlc := (RowP.cap hlx).2.1
                  clear hy hTi htl eN
                  first | subst hp3 | (simp only [Option.some.injEq, Addr.mk.injEq, and_true] at hp3; subst hp3)
                  go_wp2
                  refine wp_region_mix [([0, 1, 5, 6, 10, 12, 13, 2, 7, 14, 3, 8, 15, 4, 9, 16, 11], [17], [2, 3, 4]), ([], [18], [2, 3, 4]), ([], [19, 20, 21, 22], [])] (by kernel_rfl) (by kernel_rfl) ?_
                  refine mix_cons (by repeat (first | exact pick_end | apply (pick_step rfl))) (by repeat (first | exact pick_end | apply (pick_step rfl))) (by repeat (first | exact pick_end | apply (pick_step rfl))) ?_
                  repeat (go_big_quiet_step (fail))
                  refine wpQuiet_nil ?_
                  intro nq
                  go_wp2_with fail
                  try simp only [Act.put, List.setIfInBounds_toArray, List.set_cons_zero, List.set_cons_succ]
                  refine ⟨?_, ?_⟩
                  · unfold AgainAll; repeat (go_big_quiet_step (fail))
                    exact again_end
                  refine mix_cons (by repeat (first | exact pick_end | apply (pick_step rfl))) (by repeat (first | exact pick_end | apply (pick_step rfl))) (by repeat (first | exact pick_end | apply (pick_step rfl))) ?_
                  refine wpQuiet_nil ?_
                  intro nq
                  go_wp2_with fail
                  try simp only [Act.put, List.setIfInBounds_toArray, List.set_cons_zero, List.set_cons_succ]
                  refine ⟨?_, ?_⟩
                  · unfold AgainAll; repeat (go_big_quiet_step (fail))
                    exact again_end
                  refine mix_cons' (by repeat (first | exact pick_end | apply (pick_step rfl))) (by repeat (first | exact pick_end | apply (pick_step rfl))) ?_
                  refine wpQuiet_nil ?_
                  intro nq
                  go_wp2_with (at_builtin; go_must (refine wpList_append_row rfl (.tmp 139) (.tmp 153) 62 rfl 72 Try.underlying62 infoPiece rfl (by omega) w.heap.size (cellsP (T.take (i - o.length))) [.int .i64 ((ya : Int) - o.length), .int .u8 yb.toNat] 72 (i - o.length + 1) rfl rfl (World.ownsRow.alloc (row_kp (L := []) hlx' (by repeat (first | exact Kp.refl _ _ | apply Kp.drewN | apply Kp.alloc)) (by simp)) _) (Blk.new _ _ _) rfl (by simp [Value.oneCell']) rfl ?_ ?_ ?_ ?_; omega; (unfold maxLen; omega); (simp; omega); intro p5 c5 w5 hrow5 hk5 hob5; have hlpb : b ∉ obp lp := (fun hm => by have h5 := (hlx.lt b (by rw [ob_slice]; exact hm)).1; have h6 := HH.out.blk.lt; omega); have hk15 : Kp (obp lp) wr w5 := (show Kp (obp lp) wr _ from (by repeat (first | exact Kp.refl _ _ | apply Kp.drewN | apply Kp.alloc))).trans hk5; have hb5 := hk15.blk hbx hlpb; have v1 := hb5.cell (off := 0) rfl; have v2 := hb5.frozen 0))
                  refine mix_nil ?_
                  go_wp2_with fail
                  go_roundw
                  case rel =>
                    have hs15 := hk15.size
                    have hbp5 : b ∉ obp p5 := by
                      intro hm
                      rcases hob5 with h5 | h5
                      · rw [h5] at hm; exact hlpb hm
                      · rw [h5] at hm
                        simp at hm
                        omega
                    have hlx2 := hlx.lt
                    rw [ob_slice] at hlx2
                    have ks : Kp [b] w5 (w5.setCell ⟨b, 0, none⟩ (.slice p5 (i - o.length + 1) c5)) := (Kp.refl _ _).setCell (.inl (by simp)) _
                    have hrow6 : RowP w5 w.heap.size (.slice p5 (i - o.length + 1) c5) (T.take (i + 1 - o.length)) := by
                      rw [HTI.out]
                      unfold RowP
                      rw [List.length_append, HXL.out, cellsP_append, List.length_singleton]
                      rw [← HEN.out] at hrow5
                      exact hrow5
                    refine ⟨i + 1, _, by omega, by omega, by go_num, by simpa using hb5.set 0 (.slice p5 (i - o.length + 1) c5), hrow6.kp ks (fun j hj hm => by rw [ob_slice] at hj; simp at hm; subst hm; exact hbp5 hj), (show Kp [b] w w5 from hkx.trans' hk15 (fun j hj => .inl hj) (fun j hj => .inr (hlx2 j hj).1)).trans ks, (hfx.kp hk15 (fun j hj hm => hdx j (by rw [ob_slice]; exact hm) (by rw [ob_slice] at hj; exact hj))).kp ks (fun j hj hm => by have := (hfx.lt j hj).1; have := HH.out.blk.lt; simp at hm; omega), (hox.kp hk15 (fun j hj hm => row_ne hox hlx (by decide) j hj (by rw [ob_slice]; exact hm))).kp ks (fun j hj hm => by have := (hox.lt j hj).1; have := HH.out.blk.lt; simp at hm; omega), ?_⟩
                    intro j hj hm
                    rw [ob_slice] at hj
                    rcases hob5 with h5 | h5
                    · rw [h5] at hj; exact hdx j (by rw [ob_slice]; exact hj) hm
                    · rw [h5] at hj
                      have := (hfx.lt j (by rw [ob_slice]; exact hm)).2
                      simp at hj
                      omega
                  case measure => simp [intOf] <;> omega
                · have hTe : T.take (i - o.length) = T := List.take_of_length_le (by have := HTL.out; omega)
                  rw [hTe] at hlx hbx hdx y1
                  clear hTe
                  go_wp2
                  go_ret
                  refine ⟨_, _, o, T, rfl, hox, ⟨hbx, hlx.mono (Nat.zero_le _), fun hm => by have := (hlx.lt _ hm).1; have := HH.out.blk.lt; omega, HTU.out, HTOP.out⟩, ?_, hkx, fun i hi => .inr (hlx.lt i hi).1, fun i hi => row_ne hox hlx (by decide) i hi⟩
                  rw [← HTT.out, show (fun x => (getL L x).or (brings ahead bs x)) = getL F from funext fun x => (HFI.out x).symm]
                  exact HREF.out
          · have HSTOP := Lib.hid (show o.length < F.length → (F.getD o.length (0, 0)).1 ≠ o.length from fun h => absurd h hnl)
            have hblk := hkr.blk HH.out.blk (by simp)
            have z1 := hblk.cell (off := 0) rfl
            have zf := hblk.frozen 0
            have HBL := Lib.hid hblk
            clear hblk
            have hRef := ref_ok HFU.out HOF.out hol HSTOP.out
            have HREF := Lib.hid hRef
            obtain ⟨T, hT⟩ : ∃ T, (F.drop o.length).map (fun p => (p.1 - o.length, p.2)) = T := ⟨_, rfl⟩
            have HTT := Lib.hid hT
            have hTl : T.length = F.length - o.length := by rw [← hT]; simp
            have hTU : Up T := by rw [← hT]; exact hRef.up
            have hTop : ∀ p ∈ T, p.1 < 1048560 := by
              intro p hp
              rw [← hT] at hp
              obtain ⟨q, hq, rfl⟩ := List.mem_map.1 hp
              have := HFT.out q (List.mem_of_mem_drop hq)
              simp only []
              omega
            have HTL := Lib.hid hTl
            have HTU := Lib.hid hTU
            have HTOP := Lib.hid hTop
            clear hRef hT hTl hTU hTop
            obtain ⟨w9, hw9⟩ : ∃ w9, w9 = wr := ⟨_, rfl⟩
            subst hw9
            go_wp2
            go_loopw [13] (fun iv wx => ∃ (i : Nat) (lv : Value), o.length ≤ i ∧ i ≤ F.length ∧ iv = .int .i64 i ∧ Blk wx b [lv] 64 ∧ RowP wx w.heap.size lv (T.take (i - o.length)) ∧ Kp [b] w wx ∧ RowP wx w.heap.size (.slice p2 F.length c2) F ∧ OwnB wx w.heap.size 5 (.slice op o.length oc) o ∧ ∀ i, i ∈ ob lv → i ∉ obp p2) (fun iv _ => F.length - (intOf iv).toNat)
            case atStart =>
              have hbw := HH.out.blk.lt
              have ks : Kp [b] w9 (w9.setCell ⟨b, 0, none⟩ (.slice none 0 0)) := (Kp.refl _ _).setCell (.inl (by simp)) _
              refine ⟨o.length, .slice none 0 0, Nat.le_refl _, hol, rfl, by simpa using HBL.out.set 0 (.slice none 0 0), by rw [Nat.sub_self]; exact RowP.nil _ _, (hkr.mono (by simp)).trans ks, hrowr.kp ks (fun i hi => by have := (hrowr.lt i hi).1; simp; omega), hown.kp ks (fun i hi => by have := (hown.lt i hi).1; simp; omega), by simp [ob, Value.ownBlock]⟩
            case round =>
              obtain ⟨i, lv, hi1, hi2, rfl, hbx, hlx, hkx, hfx, hox, hdx⟩ := hrel
              obtain ⟨lp, lc, rfl⟩ := hlx.shape
              have y1 := hbx.cell (off := 0) rfl
              by_cases hif : i < F.length
              · exfalso; omega
              · have hTe : T.take (i - o.length) = T := List.take_of_length_le (by have := HTL.out; omega)
                rw [hTe] at hlx hbx hdx y1
                clear hTe
                go_wp2
                go_ret
                refine ⟨_, _, o, T, rfl, hox, ⟨hbx, hlx.mono (Nat.zero_le _), fun hm => by have := (hlx.lt _ hm).1; have := HH.out.blk.lt; omega, HTU.out, HTOP.out⟩, ?_, hkx, fun i hi => .inr (hlx.lt i hi).1, fun i hi => row_ne hox hlx (by decide) i hi⟩
                rw [← HTT.out, show (fun x => (getL L x).or (brings ahead bs x)) = getL F from funext fun x => (HFI.out x).symm]
                exact HREF.out

end Go.Proofs.Ytodedpmedkgkmaa

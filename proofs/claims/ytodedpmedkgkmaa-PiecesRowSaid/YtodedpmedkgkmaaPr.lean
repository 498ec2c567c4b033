/-
  wharflaw13.PiecesRow: its walk.
-/
import Derived.Test.YtodedpmedkgkmaaHeld
import Derived.Test.YtodedpmedkgkmaaPrPlain
import Derived.Test.YtodedpmedkgkmaaRow
set_option linter.unusedVariables false
set_option linter.unusedSimpArgs false
namespace Go.Proofs.Ytodedpmedkgkmaa
open Go.RowKit

def bools (n : Nat) (f : Nat → Bool) : List Value := (List.range n).map fun i => .bool (f i)

theorem bools_get {n : Nat} {f : Nat → Bool} {i : Nat} (h : i < n) : (bools n f)[i]? = some (.bool (f i)) := by
  unfold bools
  rw [List.getElem?_map, List.getElem?_range h]
  rfl

theorem bools_set (n : Nat) (f : Nat → Bool) (k : Nat) : (bools n f).set k (.bool true) = bools n fun i => f i || decide (i = k) := by
  unfold bools
  apply List.ext_getElem?
  intro i
  by_cases hi : i < n
  · by_cases hk : k = i
    · subst hk
      rw [List.getElem?_set_self (by simpa using hi), List.getElem?_map, List.getElem?_range hi]
      simp
    · rw [List.getElem?_set_ne hk, List.getElem?_map, List.getElem?_map, List.getElem?_range hi]
      have : ¬ i = k := fun e => hk e.symm
      simp [this]
  · rw [List.getElem?_eq_none (by simp; omega), List.getElem?_eq_none (by simp; omega)]

theorem bools_congr {n : Nat} {f g : Nat → Bool} (h : ∀ i, f i = g i) : bools n f = bools n g := by rw [show f = g from funext h]

/-- make([]bool, n) -/
theorem wpList_make_bools {P : Program} {ops : Array Oper} {rest : List Oper} {o : Oper} {a : Act} {w : World} {Q : Exit → Act → World → Prop}
    (hg : o.guard = none) (l c : Operand) (t : TypeId) (hop : o.op = Op.makeSlice t l c)
    (e : TypeId) (h1 : P.underlying t = some (.slice e)) (h2 : (P.info? e).map (fun i => (i.zero, i.size, i.bytes)) = some (some (.bool false), 1, 1))
    (L C : Int) (n : Nat) (hl : a.eval l = .int .i64 L) (hc : a.eval c = .int .i64 C) (hL : L = (n : Int)) (hC : C = (n : Int)) (hn : n ≤ 140737488355328)
    (hK : ∀ w', Blk w' w.heap.size (bools n fun _ => false) e → Kp [] w w' → w'.heap.size = w.heap.size + 1 →
      wpList P ops Q rest (a.put o.dst (.slice (some ⟨w.heap.size, 0, none⟩) n n)) w') :
    wpList P ops Q (o :: rest) a w := by
  refine wpList_plain hg fun K hK' => ?_
  subst hL
  subst hC
  obtain ⟨i, hi, hz, hsz, hby⟩ := info_parts h2
  have hrun := run_make (P := P) w t e i (.bool false) h1 hi hz .i64 .i64 n n (by omega) (by omega) (by rw [hby]; omega) (by omega)
  unfold Oper.wp
  simp [execOp, hop, hl, hc, hrun, Result.andThen, hsz]
  refine hK' _ _ (hK _ ?_ ((Kp.refl _ _).alloc _) (by simp))
  have e1 : madeCells (Value.bool false).cells n = (bools n fun _ => false).toArray := by
    unfold madeCells bools
    apply Array.ext
    · simp
    · intro k hk1 hk2
      simp [Value.cells, Nat.mod_one]
  rw [e1]
  exact Blk.new _ _ _

/-- where PiecesRow stands -/
structure PrAt (w0 w : World) (bs : List UInt8) (hs : Nat → Bool) (G : Nat) (l : List Bn) (ov : Value) : Prop where
  kp : Kp [] w0 w
  pc : ∃ cur p rs, PcAt w w0.heap.size 0 51 cur p rs ∧ rs.map Rn.bn = l ∧ (∀ i, i ∈ obp p → w0.heap.size + 1 < i ∧ i < w.heap.size) ∧ (∀ i, i ∈ obs rs → w0.heap.size + 1 < i) ∧ ∀ i, i ∈ ob ov → i ∉ obp p ∧ i ∉ obs rs
  has : Blk w (w0.heap.size + 1) (bools (bs.length + 1) hs) 4
  out : OwnB w w0.heap.size 5 ov (bs.take G)
  olo : ∀ i, i ∈ ob ov → w0.heap.size + 1 < i
  st : RowSt bs hs G l

theorem range_no (A i : Nat) : (decide (A ≤ i) && decide (i < A)) = false := by
  by_cases h : A ≤ i
  · simp [h, Nat.not_lt.2 h]
  · simp [h]

theorem PrAt.drewN {w0 w : World} {bs : List UInt8} {hs : Nat → Bool} {G : Nat} {l : List Bn} {ov : Value} (h : PrAt w0 w bs hs G l ov) (n : Nat) : PrAt w0 (w.drewN n) bs hs G l ov := by
  obtain ⟨cur, p, rs, h1, h2⟩ := h.pc
  exact ⟨h.kp.drewN n, ⟨cur, p, rs, h1.kp (L := []) ((Kp.refl _ _).drewN n) (by simp) (by simp) (by simp), h2⟩, h.has, h.out, h.olo, h.st⟩

theorem infoBool : (Try.prog.info? 4).map (fun i => (i.zero, i.size, i.bytes)) = some (some (.bool false), 1, 1) := by kernel_rfl

set_option maxRecDepth 10000 in
set_option maxHeartbeats 3200000 in
theorem pr_some (q0 : Option Addr) (c0 : Nat) (bs : List UInt8) (p : Option Addr) (n c : Nat) (z : Nat → Int) (L : Nat) (w : World) (hL1 : 1 ≤ L) (hL2 : L ≤ 2000) (hb : Byt w (.slice q0 bs.length c0) bs) (hbl : bs.length ≤ 1500) (hS : IntsAt w p n z) (hn : n ≤ 200) :
    Calls Try.prog 5 #[.slice q0 bs.length c0, .slice p n c, .int .i64 L] w fun e w' => e = .returned (.bool true) ∧ Kp [] w w' := by
  have HS := Lib.hid hS
  have HB := Lib.hid (show ∀ w', Kp [] w w' → Byt w' (.slice q0 bs.length c0) bs from fun w' k => hb.kp k (by simp))
  have hc0 := hb.len.2.1
  clear hS hb
  have hP := pc_new w
  go_enter Try.func5, Try.ntmps5
  go_wp2_with (at_make; go_must (refine wpList_make_bools rfl (.tmp 36) (.tmp 36) 52 rfl 4 Try.underlying52 infoBool _ _ (bs.length + 1) rfl rfl ?_ ?_ ?_ ?_; omega; omega; omega; intro w1 hb1 hk1 hz1))
  have hinv : PrAt w w1 bs (fun _ => false) 0 [] (.slice none 0 0) := by
    refine ⟨((Kp.refl _ _).alloc _).trans hk1, ⟨_, _, [], hP.kp hk1 (by simp) (by simp) (by simp), rfl, by simp [obp], by simp [obs], by simp [ob, Value.ownBlock]⟩, by simpa using hb1, World.ownsRow_nil _ _ _ _, by simp [ob, Value.ownBlock], RowSt.nil bs⟩
  clear hP hb1 hk1 hz1
  go_loopw [8, 10] (fun ov i wr => ∃ (k : Nat) (hs : Nat → Bool) (G : Nat) (l : List Bn), k ≤ n + 1 ∧ i = .int .i64 k ∧ PrAt w wr bs hs G l ov ∧ (n < k → ∀ i, i < bs.length → hs i = true)) (fun _ i _ => n + 1 - (intOf i).toNat)
  case atStart => exact ⟨0, _, 0, [], by omega, rfl, hinv, by omega⟩
  case round =>
    obtain ⟨k, hs, G, l, hk, rfl, H, hfull⟩ := hrel
    have hGl : (bs.take G).length = G := by have := H.st.hle; simp; omega
    have hGb := H.st.hle
    obtain ⟨op, oc, rfl, _, hoc⟩ := H.out.shape
    rw [hGl] at hoc H ⊢
    have HF := Lib.hid hfull
    have HGL := Lib.hid hGl
    clear hfull hGl
    have hbyt : ∀ A E d, A ≤ E → E ≤ bs.length → d = E - A → (c0 = A → Byt wr (.slice q0 d (c0 - A)) ((bs.drop A).take (E - A))) ∧ (¬ c0 = A → Byt wr (.slice (q0.map (fun x => x.add A)) d (c0 - A)) ((bs.drop A).take (E - A))) := by
      rintro A E d h1 h2 rfl
      exact (HB.out wr H.kp).mid (k := A) (j := E) h1 h2
    have HM := Lib.hid hbyt
    clear hbyt
    by_cases hlt : k < n
    · obtain ⟨g, o, rfl, hz0⟩ := HS.out k hlt
      have hz := H.kp.cell hz0 (by simp)
      have htm : -(bs.length : Int) ≤ (z k).tmod (bs.length + 1) ∧ (z k).tmod (bs.length + 1) ≤ bs.length := by
        have h1 := Int.tmod_lt_of_pos (z k) (show (0 : Int) < bs.length + 1 by omega)
        have h2 := Int.lt_tmod_of_pos (z k) (show (0 : Int) < bs.length + 1 by omega)
        omega
      by_cases hneg : (z k).tmod (bs.length + 1) < 0
      · obtain ⟨B, hB⟩ : ∃ B : Nat, (z k).tmod (bs.length + 1) = -(B : Int) := ⟨(-((z k).tmod (bs.length + 1))).toNat, by omega⟩
        obtain ⟨A, hA⟩ : ∃ A : Nat, -(B : Int) + bs.length + 1 = A := ⟨(-(B : Int) + bs.length + 1).toNat, by omega⟩
        have hB1 : 0 < B := by omega
        have hB2 : B ≤ bs.length := by omega
        have hA1 : A ≤ bs.length := by omega
        clear hneg htm
        rcases Nat.lt_or_ge (A + L) bs.length with hm | hm
        · have hcA : ¬ c0 = A := by omega
          go_wp2_with fail
          obtain ⟨wo, rfl⟩ : ∃ wo : World, wo = wr := ⟨_, rfl⟩
          obtain ⟨cur, pp, rs, hPc, hbn, hpp, hobs, hdis⟩ := H.pc
          obtain ⟨og, hog⟩ : ∃ og, putTo l ((A : Nat) - G : Int) ((bs.drop A).take ((A + L) - A)) = og := ⟨_, rfl⟩
          obtain ⟨hst, htk⟩ := H.st.put (A := A) (E := (A + L)) (by omega) (by omega) hbl og hog
          have hPut := put_next hPc (by decide) ((A : Int) - G) (.slice (q0.map (fun x => x.add A)) L (c0 - A)) ((bs.drop A).take ((A + L) - A)) ((HM.out A (A + L) L (by omega) (by omega) (by omega)).2 hcA) l hbn og (by simpa using hog)
          refine hPut.mono ?_
          clear hPut hog
          rintro e w2 ⟨v2, sv2, p2, rs2, rfl, hP2, hbn2, hown2, hk2, hpp2, hv2, hvo, hbv⟩
          obtain ⟨vp, vc, rfl, _, hvc⟩ := hown2.shape
          have hsz0 := H.kp.size
          have hsz2 := hk2.size
          have hout2 : OwnB w2 w.heap.size 5 (.slice op G oc) (bs.take G) := H.out.kp hk2 (fun i hi hm => by
            have h1 := H.olo i hi
            have h2 := hdis i hi
            rcases List.mem_cons.1 hm with rfl | hm
            · omega
            · exact h2.1 hm)
          have hhas2 := hk2.blk H.has (fun hm => by
            rcases List.mem_cons.1 hm with h1 | h1
            · omega
            · have := hpp _ h1; omega)
          obtain ⟨G2, hG2⟩ : ∃ G2, G + og.1.length = G2 := ⟨_, rfl⟩
          rw [hG2] at hst htk
          have hG2b := hst.hle
          have HG2 := Lib.hid hG2
          have HTK := Lib.hid htk
          have HST := Lib.hid hst
          clear hG2 htk hst
          go_wp2_with (at_builtin; go_must (refine wpList_append_bytes rfl (.tmp 71) (.tmp 81) 32 rfl 5 Try.underlying32 infoU8 w.heap.size (bs.take G) og.1 (bs.take G2) G2 rfl rfl hout2 hown2.byt HTK.out HG2.out ?_ ?_ ?_; omega; omega; intro p3 c3 w3 hown3 hk3 hob3))
          have hhas3 := hk3.blk hhas2 (fun hm => by have := H.olo _ (by rw [ob_slice]; exact hm); omega)
          have hsz3 := hk3.size
          have hcap3 := hown3.cap.2.1
          have kk3 : Kp [] w w3 := (show Kp [] w w2 from H.kp.trans' hk2 (by simp) (fun i hi => .inr (by
              rcases List.mem_cons.1 hi with rfl | hi
              · omega
              · have := hpp i hi; omega))).trans' hk3 (by simp) (fun i hi => .inr (by have := H.olo i (by rw [ob_slice]; exact hi); omega))
          have hout3lo : ∀ i, i ∈ obp p3 → w.heap.size + 1 < i := by
            intro i hi
            rcases hob3 with h5 | h5
            · exact H.olo i (by rw [ob_slice, ← h5]; exact hi)
            · rw [h5] at hi; have := hhas2.lt; simp at hi; omega
          have hPc3 : PcAt w3 w.heap.size 0 51 (cur.set 0 sv2) p2 rs2 := hP2.kp hk3 (fun hm => by have := H.olo _ (by rw [ob_slice]; exact hm); omega)
            (fun i hi hm => by
              rcases hpp2 i hi with h1 | h1
              · exact (hdis i (by rw [ob_slice]; exact hm)).1 h1
              · have h2 := (H.out.lt i (by rw [ob_slice]; exact hm)).2; omega)
            (fun i hi hm => by
              rcases hvo i (.inr hi) with h1 | h1
              · exact (hdis i (by rw [ob_slice]; exact hm)).2 h1
              · have h2 := (H.out.lt i (by rw [ob_slice]; exact hm)).2; omega)
          have hpp3 : ∀ i, i ∈ obp p2 → w.heap.size + 1 < i ∧ i < w3.heap.size := by
            intro i hi
            rcases hpp2 i hi with h1 | h1
            · have := hpp i h1; omega
            · have := hhas2.lt; have := H.has.lt; omega
          have hobs3 : ∀ i, i ∈ obs rs2 → w.heap.size + 1 < i := by
            intro i hi
            rcases hvo i (.inr hi) with h1 | h1
            · exact hobs i h1
            · have := H.has.lt; omega
          have hdis3 : ∀ i, i ∈ ob (.slice p3 G2 c3) → i ∉ obp p2 ∧ i ∉ obs rs2 := by
            intro i hi
            rw [ob_slice] at hi
            rcases hob3 with h5 | h5
            · rw [h5] at hi
              have h6 := hdis i (by rw [ob_slice]; exact hi)
              have h7 := (H.out.lt i (by rw [ob_slice]; exact hi)).2
              refine ⟨fun hm => ?_, fun hm => ?_⟩
              · rcases hpp2 i hm with h1 | h1
                · exact h6.1 h1
                · omega
              · rcases hvo i (.inr hm) with h1 | h1
                · exact h6.2 h1
                · omega
            · rw [h5] at hi
              simp at hi
              subst hi
              refine ⟨fun hm => ?_, fun hm => ?_⟩
              · rcases hpp2 _ hm with h1 | h1
                · have := hpp _ h1; omega
                · omega
              · obtain ⟨r, hr, hir⟩ := mem_obs.1 hm
                have := ((hP2.ok r hr).own.lt _ hir).2
                omega
          have H0 := Lib.hid H
          have HP3 := Lib.hid hPc3
          have HD3 := Lib.hid hdis3
          clear hP2 hPc hhas2 hout2 hown2 hdis hdis3 hvo hv2 hpp2 hpp hobs hbn hob3 H hk2 hk3 hPc3
          go_loopw [13] (fun kv wx => ∃ k2 : Nat, A ≤ k2 ∧ k2 ≤ (A + L) ∧ kv = .int .i64 k2 ∧ Kp [w.heap.size + 1] w3 wx ∧ Blk wx (w.heap.size + 1) (bools (bs.length + 1) fun i => hs i || (decide (A ≤ i) && decide (i < k2))) 4) (fun kv _ => (A + L) - (intOf kv).toNat)
          case atStart => exact ⟨A, Nat.le_refl _, by omega, rfl, Kp.refl _ _, by rw [bools_congr (g := hs) (fun i => by rw [range_no, Bool.or_false])]; exact hhas3⟩
          case round =>
            obtain ⟨k2, hk2a, hk2b, rfl, hkx, hbx⟩ := hrel
            obtain ⟨wx, rfl⟩ : ∃ wx : World, wx = wr := ⟨_, rfl⟩
            by_cases hkE : k2 < (A + L)
            · have hfz := hbx.frozen k2
              have hcl := hbx.cell (bools_get (f := fun i => hs i || (decide (A ≤ i) && decide (i < k2))) (show k2 < bs.length + 1 by omega))
              have hbx2 := hbx.set k2 (.bool true)
              rw [bools_set, bools_congr (g := fun i => hs i || (decide (A ≤ i) && decide (i < k2 + 1))) (fun i => by
                by_cases h1 : i = k2
                · subst h1; simp [hk2a]
                · have e1 : decide (i < k2 + 1) = decide (i < k2) := by rw [decide_eq_decide]; omega
                  simp [h1, e1])] at hbx2
              have HBX := Lib.hid hbx2
              clear hbx hbx2
              go_wp2
              go_roundw
              case rel => exact ⟨k2 + 1, by omega, by omega, by go_num, hkx.setCell (.inl (by simp)) _, HBX.out⟩
              case measure => simp [intOf] <;> omega
            · have hkE2 : k2 = (A + L) := by omega
              rw [hkE2] at hbx
              have hPx : PrAt w wx bs (fun i => hs i || (decide (A ≤ i) && decide (i < (A + L)))) G2 og.2 (.slice p3 G2 c3) := by
                refine ⟨kk3.trans' hkx (by simp) (by simp), ⟨_, p2, rs2, HP3.out.kp hkx (by simp) (fun i hi hm => by have := hpp3 i hi; simp at hm; omega) (fun i hi hm => by have := hobs3 i hi; simp at hm; omega), hbn2, fun i hi => by have := hpp3 i hi; have := hkx.size; omega, hobs3, HD3.out⟩, hbx, hown3.kp hkx (fun i hi hm => by rw [ob_slice] at hi; have := hout3lo i hi; simp at hm; omega), fun i hi => hout3lo i (by rw [ob_slice] at hi; exact hi), HST.out⟩
              clear hkE2
              go_wp2
              go_loopw [14] (fun gv wy => ∃ g2 : Nat, g2 ≤ G2 ∧ gv = .int .i64 g2 ∧ wy = wx) (fun gv _ => G2 - (intOf gv).toNat)
              case atStart => exact ⟨0, Nat.zero_le _, rfl, rfl⟩
              case round =>
                obtain ⟨g2, hg2, rfl, rfl⟩ := hrel
                have hcl := hPx.has.cell (bools_get (f := fun i => hs i || (decide (A ≤ i) && decide (i < (A + L)))) (show g2 < bs.length + 1 by omega))
                by_cases hgG : g2 < G2
                · rw [show (hs g2 || (decide (A ≤ g2) && decide (g2 < (A + L)))) = true from hPx.st.front g2 hgG] at hcl
                  go_wp2
                  go_roundw
                  case rel => exact ⟨g2 + 1, by omega, by go_num, by first | rfl | trivial⟩
                  case measure => simp [intOf] <;> omega
                · obtain rfl : g2 = G2 := by omega
                  rw [show (hs g2 || (decide (A ≤ g2) && decide (g2 < (A + L)))) = false from hPx.st.gap] at hcl
                  have HPX := Lib.hid hPx
                  clear hPx
                  go_wp2_with fail
                  refine (l13_same _ _ (bs.take g2) (bs.take g2) _ HPX.out.out.byt ((HB.out _ HPX.out.kp).take hG2b)).mono ?_
                  rw [show sameTo (bs.take g2) (bs.take g2) = true by simp [sameTo]]
                  rintro e w6 ⟨rfl, n6, rfl⟩
                  go_wp2_with fail
                  go_roundw
                  case rel =>
                    refine ⟨k + 1, _, g2, og.2, by omega, by go_num, HPX.out.drewN n6, (by omega)⟩
                  case measure => simp [intOf] <;> omega
        · by_cases hcA : c0 = A
          · subst hcA
            have hv0 : Byt wr (.slice q0 0 0) ((bs.drop c0).take (bs.length - c0)) := by
              have h5 := (HM.out c0 bs.length 0 (by omega) (by omega) (by omega)).1 rfl
              rwa [Nat.sub_self] at h5
            go_wp2_with fail
            obtain ⟨wo, rfl⟩ : ∃ wo : World, wo = wr := ⟨_, rfl⟩
            obtain ⟨cur, pp, rs, hPc, hbn, hpp, hobs, hdis⟩ := H.pc
            obtain ⟨og, hog⟩ : ∃ og, putTo l ((c0 : Nat) - G : Int) ((bs.drop c0).take (bs.length - c0)) = og := ⟨_, rfl⟩
            obtain ⟨hst, htk⟩ := H.st.put (A := c0) (E := bs.length) (by omega) (by omega) hbl og hog
            have hPut := put_next hPc (by decide) ((c0 : Int) - G) (.slice q0 0 0) ((bs.drop c0).take (bs.length - c0)) hv0 l hbn og (by simpa using hog)
            refine hPut.mono ?_
            clear hPut hog
            rintro e w2 ⟨v2, sv2, p2, rs2, rfl, hP2, hbn2, hown2, hk2, hpp2, hv2, hvo, hbv⟩
            obtain ⟨vp, vc, rfl, _, hvc⟩ := hown2.shape
            have hsz0 := H.kp.size
            have hsz2 := hk2.size
            have hout2 : OwnB w2 w.heap.size 5 (.slice op G oc) (bs.take G) := H.out.kp hk2 (fun i hi hm => by
              have h1 := H.olo i hi
              have h2 := hdis i hi
              rcases List.mem_cons.1 hm with rfl | hm
              · omega
              · exact h2.1 hm)
            have hhas2 := hk2.blk H.has (fun hm => by
              rcases List.mem_cons.1 hm with h1 | h1
              · omega
              · have := hpp _ h1; omega)
            obtain ⟨G2, hG2⟩ : ∃ G2, G + og.1.length = G2 := ⟨_, rfl⟩
            rw [hG2] at hst htk
            have hG2b := hst.hle
            have HG2 := Lib.hid hG2
            have HTK := Lib.hid htk
            have HST := Lib.hid hst
            clear hG2 htk hst
            go_wp2_with (at_builtin; go_must (refine wpList_append_bytes rfl (.tmp 71) (.tmp 81) 32 rfl 5 Try.underlying32 infoU8 w.heap.size (bs.take G) og.1 (bs.take G2) G2 rfl rfl hout2 hown2.byt HTK.out HG2.out ?_ ?_ ?_; omega; omega; intro p3 c3 w3 hown3 hk3 hob3))
            have hhas3 := hk3.blk hhas2 (fun hm => by have := H.olo _ (by rw [ob_slice]; exact hm); omega)
            have hsz3 := hk3.size
            have hcap3 := hown3.cap.2.1
            have kk3 : Kp [] w w3 := (show Kp [] w w2 from H.kp.trans' hk2 (by simp) (fun i hi => .inr (by
                rcases List.mem_cons.1 hi with rfl | hi
                · omega
                · have := hpp i hi; omega))).trans' hk3 (by simp) (fun i hi => .inr (by have := H.olo i (by rw [ob_slice]; exact hi); omega))
            have hout3lo : ∀ i, i ∈ obp p3 → w.heap.size + 1 < i := by
              intro i hi
              rcases hob3 with h5 | h5
              · exact H.olo i (by rw [ob_slice, ← h5]; exact hi)
              · rw [h5] at hi; have := hhas2.lt; simp at hi; omega
            have hPc3 : PcAt w3 w.heap.size 0 51 (cur.set 0 sv2) p2 rs2 := hP2.kp hk3 (fun hm => by have := H.olo _ (by rw [ob_slice]; exact hm); omega)
              (fun i hi hm => by
                rcases hpp2 i hi with h1 | h1
                · exact (hdis i (by rw [ob_slice]; exact hm)).1 h1
                · have h2 := (H.out.lt i (by rw [ob_slice]; exact hm)).2; omega)
              (fun i hi hm => by
                rcases hvo i (.inr hi) with h1 | h1
                · exact (hdis i (by rw [ob_slice]; exact hm)).2 h1
                · have h2 := (H.out.lt i (by rw [ob_slice]; exact hm)).2; omega)
            have hpp3 : ∀ i, i ∈ obp p2 → w.heap.size + 1 < i ∧ i < w3.heap.size := by
              intro i hi
              rcases hpp2 i hi with h1 | h1
              · have := hpp i h1; omega
              · have := hhas2.lt; have := H.has.lt; omega
            have hobs3 : ∀ i, i ∈ obs rs2 → w.heap.size + 1 < i := by
              intro i hi
              rcases hvo i (.inr hi) with h1 | h1
              · exact hobs i h1
              · have := H.has.lt; omega
            have hdis3 : ∀ i, i ∈ ob (.slice p3 G2 c3) → i ∉ obp p2 ∧ i ∉ obs rs2 := by
              intro i hi
              rw [ob_slice] at hi
              rcases hob3 with h5 | h5
              · rw [h5] at hi
                have h6 := hdis i (by rw [ob_slice]; exact hi)
                have h7 := (H.out.lt i (by rw [ob_slice]; exact hi)).2
                refine ⟨fun hm => ?_, fun hm => ?_⟩
                · rcases hpp2 i hm with h1 | h1
                  · exact h6.1 h1
                  · omega
                · rcases hvo i (.inr hm) with h1 | h1
                  · exact h6.2 h1
                  · omega
              · rw [h5] at hi
                simp at hi
                subst hi
                refine ⟨fun hm => ?_, fun hm => ?_⟩
                · rcases hpp2 _ hm with h1 | h1
                  · have := hpp _ h1; omega
                  · omega
                · obtain ⟨r, hr, hir⟩ := mem_obs.1 hm
                  have := ((hP2.ok r hr).own.lt _ hir).2
                  omega
            have H0 := Lib.hid H
            have HP3 := Lib.hid hPc3
            have HD3 := Lib.hid hdis3
            clear hP2 hPc hhas2 hout2 hown2 hdis hdis3 hvo hv2 hpp2 hpp hobs hbn hob3 H hk2 hk3 hPc3
            go_loopw [13] (fun kv wx => ∃ k2 : Nat, c0 ≤ k2 ∧ k2 ≤ bs.length ∧ kv = .int .i64 k2 ∧ Kp [w.heap.size + 1] w3 wx ∧ Blk wx (w.heap.size + 1) (bools (bs.length + 1) fun i => hs i || (decide (c0 ≤ i) && decide (i < k2))) 4) (fun kv _ => bs.length - (intOf kv).toNat)
            case atStart => exact ⟨c0, Nat.le_refl _, by omega, rfl, Kp.refl _ _, by rw [bools_congr (g := hs) (fun i => by rw [range_no, Bool.or_false])]; exact hhas3⟩
            case round =>
              obtain ⟨k2, hk2a, hk2b, rfl, hkx, hbx⟩ := hrel
              obtain ⟨wx, rfl⟩ : ∃ wx : World, wx = wr := ⟨_, rfl⟩
              by_cases hkE : k2 < bs.length
              · exfalso; omega
              · have hkE2 : k2 = bs.length := by omega
                rw [hkE2] at hbx
                have hPx : PrAt w wx bs (fun i => hs i || (decide (c0 ≤ i) && decide (i < bs.length))) G2 og.2 (.slice p3 G2 c3) := by
                  refine ⟨kk3.trans' hkx (by simp) (by simp), ⟨_, p2, rs2, HP3.out.kp hkx (by simp) (fun i hi hm => by have := hpp3 i hi; simp at hm; omega) (fun i hi hm => by have := hobs3 i hi; simp at hm; omega), hbn2, fun i hi => by have := hpp3 i hi; have := hkx.size; omega, hobs3, HD3.out⟩, hbx, hown3.kp hkx (fun i hi hm => by rw [ob_slice] at hi; have := hout3lo i hi; simp at hm; omega), fun i hi => hout3lo i (by rw [ob_slice] at hi; exact hi), HST.out⟩
                clear hkE2
                go_wp2
                go_loopw [14] (fun gv wy => ∃ g2 : Nat, g2 ≤ G2 ∧ gv = .int .i64 g2 ∧ wy = wx) (fun gv _ => G2 - (intOf gv).toNat)
                case atStart => exact ⟨0, Nat.zero_le _, rfl, rfl⟩
                case round =>
                  obtain ⟨g2, hg2, rfl, rfl⟩ := hrel
                  have hcl := hPx.has.cell (bools_get (f := fun i => hs i || (decide (c0 ≤ i) && decide (i < bs.length))) (show g2 < bs.length + 1 by omega))
                  by_cases hgG : g2 < G2
                  · rw [show (hs g2 || (decide (c0 ≤ g2) && decide (g2 < bs.length))) = true from hPx.st.front g2 hgG] at hcl
                    go_wp2
                    go_roundw
                    case rel => exact ⟨g2 + 1, by omega, by go_num, by first | rfl | trivial⟩
                    case measure => simp [intOf] <;> omega
                  · obtain rfl : g2 = G2 := by omega
                    rw [show (hs g2 || (decide (c0 ≤ g2) && decide (g2 < bs.length))) = false from hPx.st.gap] at hcl
                    have HPX := Lib.hid hPx
                    clear hPx
                    go_wp2_with fail
                    refine (l13_same _ _ (bs.take g2) (bs.take g2) _ HPX.out.out.byt ((HB.out _ HPX.out.kp).take hG2b)).mono ?_
                    rw [show sameTo (bs.take g2) (bs.take g2) = true by simp [sameTo]]
                    rintro e w6 ⟨rfl, n6, rfl⟩
                    go_wp2_with fail
                    go_roundw
                    case rel =>
                      refine ⟨k + 1, _, g2, og.2, by omega, by go_num, HPX.out.drewN n6, (by omega)⟩
                    case measure => simp [intOf] <;> omega
          · go_wp2_with fail
            obtain ⟨wo, rfl⟩ : ∃ wo : World, wo = wr := ⟨_, rfl⟩
            obtain ⟨cur, pp, rs, hPc, hbn, hpp, hobs, hdis⟩ := H.pc
            obtain ⟨og, hog⟩ : ∃ og, putTo l ((A : Nat) - G : Int) ((bs.drop A).take (bs.length - A)) = og := ⟨_, rfl⟩
            obtain ⟨hst, htk⟩ := H.st.put (A := A) (E := bs.length) (by omega) (by omega) hbl og hog
            have hPut := put_next hPc (by decide) ((A : Int) - G) (.slice (q0.map (fun x => x.add A)) (bs.length - A) (c0 - A)) ((bs.drop A).take (bs.length - A)) ((HM.out A bs.length (bs.length - A) (by omega) (by omega) (by omega)).2 hcA) l hbn og (by simpa using hog)
            refine hPut.mono ?_
            clear hPut hog
            rintro e w2 ⟨v2, sv2, p2, rs2, rfl, hP2, hbn2, hown2, hk2, hpp2, hv2, hvo, hbv⟩
            obtain ⟨vp, vc, rfl, _, hvc⟩ := hown2.shape
            have hsz0 := H.kp.size
            have hsz2 := hk2.size
            have hout2 : OwnB w2 w.heap.size 5 (.slice op G oc) (bs.take G) := H.out.kp hk2 (fun i hi hm => by
              have h1 := H.olo i hi
              have h2 := hdis i hi
              rcases List.mem_cons.1 hm with rfl | hm
              · omega
              · exact h2.1 hm)
            have hhas2 := hk2.blk H.has (fun hm => by
              rcases List.mem_cons.1 hm with h1 | h1
              · omega
              · have := hpp _ h1; omega)
            obtain ⟨G2, hG2⟩ : ∃ G2, G + og.1.length = G2 := ⟨_, rfl⟩
            rw [hG2] at hst htk
            have hG2b := hst.hle
            have HG2 := Lib.hid hG2
            have HTK := Lib.hid htk
            have HST := Lib.hid hst
            clear hG2 htk hst
            go_wp2_with (at_builtin; go_must (refine wpList_append_bytes rfl (.tmp 71) (.tmp 81) 32 rfl 5 Try.underlying32 infoU8 w.heap.size (bs.take G) og.1 (bs.take G2) G2 rfl rfl hout2 hown2.byt HTK.out HG2.out ?_ ?_ ?_; omega; omega; intro p3 c3 w3 hown3 hk3 hob3))
            have hhas3 := hk3.blk hhas2 (fun hm => by have := H.olo _ (by rw [ob_slice]; exact hm); omega)
            have hsz3 := hk3.size
            have hcap3 := hown3.cap.2.1
            have kk3 : Kp [] w w3 := (show Kp [] w w2 from H.kp.trans' hk2 (by simp) (fun i hi => .inr (by
                rcases List.mem_cons.1 hi with rfl | hi
                · omega
                · have := hpp i hi; omega))).trans' hk3 (by simp) (fun i hi => .inr (by have := H.olo i (by rw [ob_slice]; exact hi); omega))
            have hout3lo : ∀ i, i ∈ obp p3 → w.heap.size + 1 < i := by
              intro i hi
              rcases hob3 with h5 | h5
              · exact H.olo i (by rw [ob_slice, ← h5]; exact hi)
              · rw [h5] at hi; have := hhas2.lt; simp at hi; omega
            have hPc3 : PcAt w3 w.heap.size 0 51 (cur.set 0 sv2) p2 rs2 := hP2.kp hk3 (fun hm => by have := H.olo _ (by rw [ob_slice]; exact hm); omega)
              (fun i hi hm => by
                rcases hpp2 i hi with h1 | h1
                · exact (hdis i (by rw [ob_slice]; exact hm)).1 h1
                · have h2 := (H.out.lt i (by rw [ob_slice]; exact hm)).2; omega)
              (fun i hi hm => by
                rcases hvo i (.inr hi) with h1 | h1
                · exact (hdis i (by rw [ob_slice]; exact hm)).2 h1
                · have h2 := (H.out.lt i (by rw [ob_slice]; exact hm)).2; omega)
            have hpp3 : ∀ i, i ∈ obp p2 → w.heap.size + 1 < i ∧ i < w3.heap.size := by
              intro i hi
              rcases hpp2 i hi with h1 | h1
              · have := hpp i h1; omega
              · have := hhas2.lt; have := H.has.lt; omega
            have hobs3 : ∀ i, i ∈ obs rs2 → w.heap.size + 1 < i := by
              intro i hi
              rcases hvo i (.inr hi) with h1 | h1
              · exact hobs i h1
              · have := H.has.lt; omega
            have hdis3 : ∀ i, i ∈ ob (.slice p3 G2 c3) → i ∉ obp p2 ∧ i ∉ obs rs2 := by
              intro i hi
              rw [ob_slice] at hi
              rcases hob3 with h5 | h5
              · rw [h5] at hi
                have h6 := hdis i (by rw [ob_slice]; exact hi)
                have h7 := (H.out.lt i (by rw [ob_slice]; exact hi)).2
                refine ⟨fun hm => ?_, fun hm => ?_⟩
                · rcases hpp2 i hm with h1 | h1
                  · exact h6.1 h1
                  · omega
                · rcases hvo i (.inr hm) with h1 | h1
                  · exact h6.2 h1
                  · omega
              · rw [h5] at hi
                simp at hi
                subst hi
                refine ⟨fun hm => ?_, fun hm => ?_⟩
                · rcases hpp2 _ hm with h1 | h1
                  · have := hpp _ h1; omega
                  · omega
                · obtain ⟨r, hr, hir⟩ := mem_obs.1 hm
                  have := ((hP2.ok r hr).own.lt _ hir).2
                  omega
            have H0 := Lib.hid H
            have HP3 := Lib.hid hPc3
            have HD3 := Lib.hid hdis3
            clear hP2 hPc hhas2 hout2 hown2 hdis hdis3 hvo hv2 hpp2 hpp hobs hbn hob3 H hk2 hk3 hPc3
            go_loopw [13] (fun kv wx => ∃ k2 : Nat, A ≤ k2 ∧ k2 ≤ bs.length ∧ kv = .int .i64 k2 ∧ Kp [w.heap.size + 1] w3 wx ∧ Blk wx (w.heap.size + 1) (bools (bs.length + 1) fun i => hs i || (decide (A ≤ i) && decide (i < k2))) 4) (fun kv _ => bs.length - (intOf kv).toNat)
            case atStart => exact ⟨A, Nat.le_refl _, by omega, rfl, Kp.refl _ _, by rw [bools_congr (g := hs) (fun i => by rw [range_no, Bool.or_false])]; exact hhas3⟩
            case round =>
              obtain ⟨k2, hk2a, hk2b, rfl, hkx, hbx⟩ := hrel
              obtain ⟨wx, rfl⟩ : ∃ wx : World, wx = wr := ⟨_, rfl⟩
              by_cases hkE : k2 < bs.length
              · have hfz := hbx.frozen k2
                have hcl := hbx.cell (bools_get (f := fun i => hs i || (decide (A ≤ i) && decide (i < k2))) (show k2 < bs.length + 1 by omega))
                have hbx2 := hbx.set k2 (.bool true)
                rw [bools_set, bools_congr (g := fun i => hs i || (decide (A ≤ i) && decide (i < k2 + 1))) (fun i => by
                  by_cases h1 : i = k2
                  · subst h1; simp [hk2a]
                  · have e1 : decide (i < k2 + 1) = decide (i < k2) := by rw [decide_eq_decide]; omega
                    simp [h1, e1])] at hbx2
                have HBX := Lib.hid hbx2
                clear hbx hbx2
                go_wp2
                go_roundw
                case rel => exact ⟨k2 + 1, by omega, by omega, by go_num, hkx.setCell (.inl (by simp)) _, HBX.out⟩
                case measure => simp [intOf] <;> omega
              · have hkE2 : k2 = bs.length := by omega
                rw [hkE2] at hbx
                have hPx : PrAt w wx bs (fun i => hs i || (decide (A ≤ i) && decide (i < bs.length))) G2 og.2 (.slice p3 G2 c3) := by
                  refine ⟨kk3.trans' hkx (by simp) (by simp), ⟨_, p2, rs2, HP3.out.kp hkx (by simp) (fun i hi hm => by have := hpp3 i hi; simp at hm; omega) (fun i hi hm => by have := hobs3 i hi; simp at hm; omega), hbn2, fun i hi => by have := hpp3 i hi; have := hkx.size; omega, hobs3, HD3.out⟩, hbx, hown3.kp hkx (fun i hi hm => by rw [ob_slice] at hi; have := hout3lo i hi; simp at hm; omega), fun i hi => hout3lo i (by rw [ob_slice] at hi; exact hi), HST.out⟩
                clear hkE2
                go_wp2
                go_loopw [14] (fun gv wy => ∃ g2 : Nat, g2 ≤ G2 ∧ gv = .int .i64 g2 ∧ wy = wx) (fun gv _ => G2 - (intOf gv).toNat)
                case atStart => exact ⟨0, Nat.zero_le _, rfl, rfl⟩
                case round =>
                  obtain ⟨g2, hg2, rfl, rfl⟩ := hrel
                  have hcl := hPx.has.cell (bools_get (f := fun i => hs i || (decide (A ≤ i) && decide (i < bs.length))) (show g2 < bs.length + 1 by omega))
                  by_cases hgG : g2 < G2
                  · rw [show (hs g2 || (decide (A ≤ g2) && decide (g2 < bs.length))) = true from hPx.st.front g2 hgG] at hcl
                    go_wp2
                    go_roundw
                    case rel => exact ⟨g2 + 1, by omega, by go_num, by first | rfl | trivial⟩
                    case measure => simp [intOf] <;> omega
                  · obtain rfl : g2 = G2 := by omega
                    rw [show (hs g2 || (decide (A ≤ g2) && decide (g2 < bs.length))) = false from hPx.st.gap] at hcl
                    have HPX := Lib.hid hPx
                    clear hPx
                    go_wp2_with fail
                    refine (l13_same _ _ (bs.take g2) (bs.take g2) _ HPX.out.out.byt ((HB.out _ HPX.out.kp).take hG2b)).mono ?_
                    rw [show sameTo (bs.take g2) (bs.take g2) = true by simp [sameTo]]
                    rintro e w6 ⟨rfl, n6, rfl⟩
                    go_wp2_with fail
                    go_roundw
                    case rel =>
                      refine ⟨k + 1, _, g2, og.2, by omega, by go_num, HPX.out.drewN n6, (by omega)⟩
                    case measure => simp [intOf] <;> omega
      · obtain ⟨A, hA⟩ : ∃ A : Nat, (z k).tmod (bs.length + 1) = (A : Int) := ⟨((z k).tmod (bs.length + 1)).toNat, by omega⟩
        have hA1 : A ≤ bs.length := by omega
        clear hneg htm
        rcases Nat.lt_or_ge (A + L) bs.length with hm | hm
        · have hcA : ¬ c0 = A := by omega
          go_wp2_with fail
          obtain ⟨wo, rfl⟩ : ∃ wo : World, wo = wr := ⟨_, rfl⟩
          obtain ⟨cur, pp, rs, hPc, hbn, hpp, hobs, hdis⟩ := H.pc
          obtain ⟨og, hog⟩ : ∃ og, putTo l ((A : Nat) - G : Int) ((bs.drop A).take ((A + L) - A)) = og := ⟨_, rfl⟩
          obtain ⟨hst, htk⟩ := H.st.put (A := A) (E := (A + L)) (by omega) (by omega) hbl og hog
          have hPut := put_next hPc (by decide) ((A : Int) - G) (.slice (q0.map (fun x => x.add A)) L (c0 - A)) ((bs.drop A).take ((A + L) - A)) ((HM.out A (A + L) L (by omega) (by omega) (by omega)).2 hcA) l hbn og (by simpa using hog)
          refine hPut.mono ?_
          clear hPut hog
          rintro e w2 ⟨v2, sv2, p2, rs2, rfl, hP2, hbn2, hown2, hk2, hpp2, hv2, hvo, hbv⟩
          obtain ⟨vp, vc, rfl, _, hvc⟩ := hown2.shape
          have hsz0 := H.kp.size
          have hsz2 := hk2.size
          have hout2 : OwnB w2 w.heap.size 5 (.slice op G oc) (bs.take G) := H.out.kp hk2 (fun i hi hm => by
            have h1 := H.olo i hi
            have h2 := hdis i hi
            rcases List.mem_cons.1 hm with rfl | hm
            · omega
            · exact h2.1 hm)
          have hhas2 := hk2.blk H.has (fun hm => by
            rcases List.mem_cons.1 hm with h1 | h1
            · omega
            · have := hpp _ h1; omega)
          obtain ⟨G2, hG2⟩ : ∃ G2, G + og.1.length = G2 := ⟨_, rfl⟩
          rw [hG2] at hst htk
          have hG2b := hst.hle
          have HG2 := Lib.hid hG2
          have HTK := Lib.hid htk
          have HST := Lib.hid hst
          clear hG2 htk hst
          go_wp2_with (at_builtin; go_must (refine wpList_append_bytes rfl (.tmp 71) (.tmp 81) 32 rfl 5 Try.underlying32 infoU8 w.heap.size (bs.take G) og.1 (bs.take G2) G2 rfl rfl hout2 hown2.byt HTK.out HG2.out ?_ ?_ ?_; omega; omega; intro p3 c3 w3 hown3 hk3 hob3))
          have hhas3 := hk3.blk hhas2 (fun hm => by have := H.olo _ (by rw [ob_slice]; exact hm); omega)
          have hsz3 := hk3.size
          have hcap3 := hown3.cap.2.1
          have kk3 : Kp [] w w3 := (show Kp [] w w2 from H.kp.trans' hk2 (by simp) (fun i hi => .inr (by
              rcases List.mem_cons.1 hi with rfl | hi
              · omega
              · have := hpp i hi; omega))).trans' hk3 (by simp) (fun i hi => .inr (by have := H.olo i (by rw [ob_slice]; exact hi); omega))
          have hout3lo : ∀ i, i ∈ obp p3 → w.heap.size + 1 < i := by
            intro i hi
            rcases hob3 with h5 | h5
            · exact H.olo i (by rw [ob_slice, ← h5]; exact hi)
            · rw [h5] at hi; have := hhas2.lt; simp at hi; omega
          have hPc3 : PcAt w3 w.heap.size 0 51 (cur.set 0 sv2) p2 rs2 := hP2.kp hk3 (fun hm => by have := H.olo _ (by rw [ob_slice]; exact hm); omega)
            (fun i hi hm => by
              rcases hpp2 i hi with h1 | h1
              · exact (hdis i (by rw [ob_slice]; exact hm)).1 h1
              · have h2 := (H.out.lt i (by rw [ob_slice]; exact hm)).2; omega)
            (fun i hi hm => by
              rcases hvo i (.inr hi) with h1 | h1
              · exact (hdis i (by rw [ob_slice]; exact hm)).2 h1
              · have h2 := (H.out.lt i (by rw [ob_slice]; exact hm)).2; omega)
          have hpp3 : ∀ i, i ∈ obp p2 → w.heap.size + 1 < i ∧ i < w3.heap.size := by
            intro i hi
            rcases hpp2 i hi with h1 | h1
            · have := hpp i h1; omega
            · have := hhas2.lt; have := H.has.lt; omega
          have hobs3 : ∀ i, i ∈ obs rs2 → w.heap.size + 1 < i := by
            intro i hi
            rcases hvo i (.inr hi) with h1 | h1
            · exact hobs i h1
            · have := H.has.lt; omega
          have hdis3 : ∀ i, i ∈ ob (.slice p3 G2 c3) → i ∉ obp p2 ∧ i ∉ obs rs2 := by
            intro i hi
            rw [ob_slice] at hi
            rcases hob3 with h5 | h5
            · rw [h5] at hi
              have h6 := hdis i (by rw [ob_slice]; exact hi)
              have h7 := (H.out.lt i (by rw [ob_slice]; exact hi)).2
              refine ⟨fun hm => ?_, fun hm => ?_⟩
              · rcases hpp2 i hm with h1 | h1
                · exact h6.1 h1
                · omega
              · rcases hvo i (.inr hm) with h1 | h1
                · exact h6.2 h1
                · omega
            · rw [h5] at hi
              simp at hi
              subst hi
              refine ⟨fun hm => ?_, fun hm => ?_⟩
              · rcases hpp2 _ hm with h1 | h1
                · have := hpp _ h1; omega
                · omega
              · obtain ⟨r, hr, hir⟩ := mem_obs.1 hm
                have := ((hP2.ok r hr).own.lt _ hir).2
                omega
          have H0 := Lib.hid H
          have HP3 := Lib.hid hPc3
          have HD3 := Lib.hid hdis3
          clear hP2 hPc hhas2 hout2 hown2 hdis hdis3 hvo hv2 hpp2 hpp hobs hbn hob3 H hk2 hk3 hPc3
          go_loopw [13] (fun kv wx => ∃ k2 : Nat, A ≤ k2 ∧ k2 ≤ (A + L) ∧ kv = .int .i64 k2 ∧ Kp [w.heap.size + 1] w3 wx ∧ Blk wx (w.heap.size + 1) (bools (bs.length + 1) fun i => hs i || (decide (A ≤ i) && decide (i < k2))) 4) (fun kv _ => (A + L) - (intOf kv).toNat)
          case atStart => exact ⟨A, Nat.le_refl _, by omega, rfl, Kp.refl _ _, by rw [bools_congr (g := hs) (fun i => by rw [range_no, Bool.or_false])]; exact hhas3⟩
          case round =>
            obtain ⟨k2, hk2a, hk2b, rfl, hkx, hbx⟩ := hrel
            obtain ⟨wx, rfl⟩ : ∃ wx : World, wx = wr := ⟨_, rfl⟩
            by_cases hkE : k2 < (A + L)
            · have hfz := hbx.frozen k2
              have hcl := hbx.cell (bools_get (f := fun i => hs i || (decide (A ≤ i) && decide (i < k2))) (show k2 < bs.length + 1 by omega))
              have hbx2 := hbx.set k2 (.bool true)
              rw [bools_set, bools_congr (g := fun i => hs i || (decide (A ≤ i) && decide (i < k2 + 1))) (fun i => by
                by_cases h1 : i = k2
                · subst h1; simp [hk2a]
                · have e1 : decide (i < k2 + 1) = decide (i < k2) := by rw [decide_eq_decide]; omega
                  simp [h1, e1])] at hbx2
              have HBX := Lib.hid hbx2
              clear hbx hbx2
              go_wp2
              go_roundw
              case rel => exact ⟨k2 + 1, by omega, by omega, by go_num, hkx.setCell (.inl (by simp)) _, HBX.out⟩
              case measure => simp [intOf] <;> omega
            · have hkE2 : k2 = (A + L) := by omega
              rw [hkE2] at hbx
              have hPx : PrAt w wx bs (fun i => hs i || (decide (A ≤ i) && decide (i < (A + L)))) G2 og.2 (.slice p3 G2 c3) := by
                refine ⟨kk3.trans' hkx (by simp) (by simp), ⟨_, p2, rs2, HP3.out.kp hkx (by simp) (fun i hi hm => by have := hpp3 i hi; simp at hm; omega) (fun i hi hm => by have := hobs3 i hi; simp at hm; omega), hbn2, fun i hi => by have := hpp3 i hi; have := hkx.size; omega, hobs3, HD3.out⟩, hbx, hown3.kp hkx (fun i hi hm => by rw [ob_slice] at hi; have := hout3lo i hi; simp at hm; omega), fun i hi => hout3lo i (by rw [ob_slice] at hi; exact hi), HST.out⟩
              clear hkE2
              go_wp2
              go_loopw [14] (fun gv wy => ∃ g2 : Nat, g2 ≤ G2 ∧ gv = .int .i64 g2 ∧ wy = wx) (fun gv _ => G2 - (intOf gv).toNat)
              case atStart => exact ⟨0, Nat.zero_le _, rfl, rfl⟩
              case round =>
                obtain ⟨g2, hg2, rfl, rfl⟩ := hrel
                have hcl := hPx.has.cell (bools_get (f := fun i => hs i || (decide (A ≤ i) && decide (i < (A + L)))) (show g2 < bs.length + 1 by omega))
                by_cases hgG : g2 < G2
                · rw [show (hs g2 || (decide (A ≤ g2) && decide (g2 < (A + L)))) = true from hPx.st.front g2 hgG] at hcl
                  go_wp2
                  go_roundw
                  case rel => exact ⟨g2 + 1, by omega, by go_num, by first | rfl | trivial⟩
                  case measure => simp [intOf] <;> omega
                · obtain rfl : g2 = G2 := by omega
                  rw [show (hs g2 || (decide (A ≤ g2) && decide (g2 < (A + L)))) = false from hPx.st.gap] at hcl
                  have HPX := Lib.hid hPx
                  clear hPx
                  go_wp2_with fail
                  refine (l13_same _ _ (bs.take g2) (bs.take g2) _ HPX.out.out.byt ((HB.out _ HPX.out.kp).take hG2b)).mono ?_
                  rw [show sameTo (bs.take g2) (bs.take g2) = true by simp [sameTo]]
                  rintro e w6 ⟨rfl, n6, rfl⟩
                  go_wp2_with fail
                  go_roundw
                  case rel =>
                    refine ⟨k + 1, _, g2, og.2, by omega, by go_num, HPX.out.drewN n6, (by omega)⟩
                  case measure => simp [intOf] <;> omega
        · by_cases hcA : c0 = A
          · subst hcA
            have hv0 : Byt wr (.slice q0 0 0) ((bs.drop c0).take (bs.length - c0)) := by
              have h5 := (HM.out c0 bs.length 0 (by omega) (by omega) (by omega)).1 rfl
              rwa [Nat.sub_self] at h5
            go_wp2_with fail
            obtain ⟨wo, rfl⟩ : ∃ wo : World, wo = wr := ⟨_, rfl⟩
            obtain ⟨cur, pp, rs, hPc, hbn, hpp, hobs, hdis⟩ := H.pc
            obtain ⟨og, hog⟩ : ∃ og, putTo l ((c0 : Nat) - G : Int) ((bs.drop c0).take (bs.length - c0)) = og := ⟨_, rfl⟩
            obtain ⟨hst, htk⟩ := H.st.put (A := c0) (E := bs.length) (by omega) (by omega) hbl og hog
            have hPut := put_next hPc (by decide) ((c0 : Int) - G) (.slice q0 0 0) ((bs.drop c0).take (bs.length - c0)) hv0 l hbn og (by simpa using hog)
            refine hPut.mono ?_
            clear hPut hog
            rintro e w2 ⟨v2, sv2, p2, rs2, rfl, hP2, hbn2, hown2, hk2, hpp2, hv2, hvo, hbv⟩
            obtain ⟨vp, vc, rfl, _, hvc⟩ := hown2.shape
            have hsz0 := H.kp.size
            have hsz2 := hk2.size
            have hout2 : OwnB w2 w.heap.size 5 (.slice op G oc) (bs.take G) := H.out.kp hk2 (fun i hi hm => by
              have h1 := H.olo i hi
              have h2 := hdis i hi
              rcases List.mem_cons.1 hm with rfl | hm
              · omega
              · exact h2.1 hm)
            have hhas2 := hk2.blk H.has (fun hm => by
              rcases List.mem_cons.1 hm with h1 | h1
              · omega
              · have := hpp _ h1; omega)
            obtain ⟨G2, hG2⟩ : ∃ G2, G + og.1.length = G2 := ⟨_, rfl⟩
            rw [hG2] at hst htk
            have hG2b := hst.hle
            have HG2 := Lib.hid hG2
            have HTK := Lib.hid htk
            have HST := Lib.hid hst
            clear hG2 htk hst
            go_wp2_with (at_builtin; go_must (refine wpList_append_bytes rfl (.tmp 71) (.tmp 81) 32 rfl 5 Try.underlying32 infoU8 w.heap.size (bs.take G) og.1 (bs.take G2) G2 rfl rfl hout2 hown2.byt HTK.out HG2.out ?_ ?_ ?_; omega; omega; intro p3 c3 w3 hown3 hk3 hob3))
            have hhas3 := hk3.blk hhas2 (fun hm => by have := H.olo _ (by rw [ob_slice]; exact hm); omega)
            have hsz3 := hk3.size
            have hcap3 := hown3.cap.2.1
            have kk3 : Kp [] w w3 := (show Kp [] w w2 from H.kp.trans' hk2 (by simp) (fun i hi => .inr (by
                rcases List.mem_cons.1 hi with rfl | hi
                · omega
                · have := hpp i hi; omega))).trans' hk3 (by simp) (fun i hi => .inr (by have := H.olo i (by rw [ob_slice]; exact hi); omega))
            have hout3lo : ∀ i, i ∈ obp p3 → w.heap.size + 1 < i := by
              intro i hi
              rcases hob3 with h5 | h5
              · exact H.olo i (by rw [ob_slice, ← h5]; exact hi)
              · rw [h5] at hi; have := hhas2.lt; simp at hi; omega
            have hPc3 : PcAt w3 w.heap.size 0 51 (cur.set 0 sv2) p2 rs2 := hP2.kp hk3 (fun hm => by have := H.olo _ (by rw [ob_slice]; exact hm); omega)
              (fun i hi hm => by
                rcases hpp2 i hi with h1 | h1
                · exact (hdis i (by rw [ob_slice]; exact hm)).1 h1
                · have h2 := (H.out.lt i (by rw [ob_slice]; exact hm)).2; omega)
              (fun i hi hm => by
                rcases hvo i (.inr hi) with h1 | h1
                · exact (hdis i (by rw [ob_slice]; exact hm)).2 h1
                · have h2 := (H.out.lt i (by rw [ob_slice]; exact hm)).2; omega)
            have hpp3 : ∀ i, i ∈ obp p2 → w.heap.size + 1 < i ∧ i < w3.heap.size := by
              intro i hi
              rcases hpp2 i hi with h1 | h1
              · have := hpp i h1; omega
              · have := hhas2.lt; have := H.has.lt; omega
            have hobs3 : ∀ i, i ∈ obs rs2 → w.heap.size + 1 < i := by
              intro i hi
              rcases hvo i (.inr hi) with h1 | h1
              · exact hobs i h1
              · have := H.has.lt; omega
            have hdis3 : ∀ i, i ∈ ob (.slice p3 G2 c3) → i ∉ obp p2 ∧ i ∉ obs rs2 := by
              intro i hi
              rw [ob_slice] at hi
              rcases hob3 with h5 | h5
              · rw [h5] at hi
                have h6 := hdis i (by rw [ob_slice]; exact hi)
                have h7 := (H.out.lt i (by rw [ob_slice]; exact hi)).2
                refine ⟨fun hm => ?_, fun hm => ?_⟩
                · rcases hpp2 i hm with h1 | h1
                  · exact h6.1 h1
                  · omega
                · rcases hvo i (.inr hm) with h1 | h1
                  · exact h6.2 h1
                  · omega
              · rw [h5] at hi
                simp at hi
                subst hi
                refine ⟨fun hm => ?_, fun hm => ?_⟩
                · rcases hpp2 _ hm with h1 | h1
                  · have := hpp _ h1; omega
                  · omega
                · obtain ⟨r, hr, hir⟩ := mem_obs.1 hm
                  have := ((hP2.ok r hr).own.lt _ hir).2
                  omega
            have H0 := Lib.hid H
            have HP3 := Lib.hid hPc3
            have HD3 := Lib.hid hdis3
            clear hP2 hPc hhas2 hout2 hown2 hdis hdis3 hvo hv2 hpp2 hpp hobs hbn hob3 H hk2 hk3 hPc3
            go_loopw [13] (fun kv wx => ∃ k2 : Nat, c0 ≤ k2 ∧ k2 ≤ bs.length ∧ kv = .int .i64 k2 ∧ Kp [w.heap.size + 1] w3 wx ∧ Blk wx (w.heap.size + 1) (bools (bs.length + 1) fun i => hs i || (decide (c0 ≤ i) && decide (i < k2))) 4) (fun kv _ => bs.length - (intOf kv).toNat)
            case atStart => exact ⟨c0, Nat.le_refl _, by omega, rfl, Kp.refl _ _, by rw [bools_congr (g := hs) (fun i => by rw [range_no, Bool.or_false])]; exact hhas3⟩
            case round =>
              obtain ⟨k2, hk2a, hk2b, rfl, hkx, hbx⟩ := hrel
              obtain ⟨wx, rfl⟩ : ∃ wx : World, wx = wr := ⟨_, rfl⟩
              by_cases hkE : k2 < bs.length
              · exfalso; omega
              · have hkE2 : k2 = bs.length := by omega
                rw [hkE2] at hbx
                have hPx : PrAt w wx bs (fun i => hs i || (decide (c0 ≤ i) && decide (i < bs.length))) G2 og.2 (.slice p3 G2 c3) := by
                  refine ⟨kk3.trans' hkx (by simp) (by simp), ⟨_, p2, rs2, HP3.out.kp hkx (by simp) (fun i hi hm => by have := hpp3 i hi; simp at hm; omega) (fun i hi hm => by have := hobs3 i hi; simp at hm; omega), hbn2, fun i hi => by have := hpp3 i hi; have := hkx.size; omega, hobs3, HD3.out⟩, hbx, hown3.kp hkx (fun i hi hm => by rw [ob_slice] at hi; have := hout3lo i hi; simp at hm; omega), fun i hi => hout3lo i (by rw [ob_slice] at hi; exact hi), HST.out⟩
                clear hkE2
                go_wp2
                go_loopw [14] (fun gv wy => ∃ g2 : Nat, g2 ≤ G2 ∧ gv = .int .i64 g2 ∧ wy = wx) (fun gv _ => G2 - (intOf gv).toNat)
                case atStart => exact ⟨0, Nat.zero_le _, rfl, rfl⟩
                case round =>
                  obtain ⟨g2, hg2, rfl, rfl⟩ := hrel
                  have hcl := hPx.has.cell (bools_get (f := fun i => hs i || (decide (c0 ≤ i) && decide (i < bs.length))) (show g2 < bs.length + 1 by omega))
                  by_cases hgG : g2 < G2
                  · rw [show (hs g2 || (decide (c0 ≤ g2) && decide (g2 < bs.length))) = true from hPx.st.front g2 hgG] at hcl
                    go_wp2
                    go_roundw
                    case rel => exact ⟨g2 + 1, by omega, by go_num, by first | rfl | trivial⟩
                    case measure => simp [intOf] <;> omega
                  · obtain rfl : g2 = G2 := by omega
                    rw [show (hs g2 || (decide (c0 ≤ g2) && decide (g2 < bs.length))) = false from hPx.st.gap] at hcl
                    have HPX := Lib.hid hPx
                    clear hPx
                    go_wp2_with fail
                    refine (l13_same _ _ (bs.take g2) (bs.take g2) _ HPX.out.out.byt ((HB.out _ HPX.out.kp).take hG2b)).mono ?_
                    rw [show sameTo (bs.take g2) (bs.take g2) = true by simp [sameTo]]
                    rintro e w6 ⟨rfl, n6, rfl⟩
                    go_wp2_with fail
                    go_roundw
                    case rel =>
                      refine ⟨k + 1, _, g2, og.2, by omega, by go_num, HPX.out.drewN n6, (by omega)⟩
                    case measure => simp [intOf] <;> omega
          · go_wp2_with fail
            obtain ⟨wo, rfl⟩ : ∃ wo : World, wo = wr := ⟨_, rfl⟩
            obtain ⟨cur, pp, rs, hPc, hbn, hpp, hobs, hdis⟩ := H.pc
            obtain ⟨og, hog⟩ : ∃ og, putTo l ((A : Nat) - G : Int) ((bs.drop A).take (bs.length - A)) = og := ⟨_, rfl⟩
            obtain ⟨hst, htk⟩ := H.st.put (A := A) (E := bs.length) (by omega) (by omega) hbl og hog
            have hPut := put_next hPc (by decide) ((A : Int) - G) (.slice (q0.map (fun x => x.add A)) (bs.length - A) (c0 - A)) ((bs.drop A).take (bs.length - A)) ((HM.out A bs.length (bs.length - A) (by omega) (by omega) (by omega)).2 hcA) l hbn og (by simpa using hog)
            refine hPut.mono ?_
            clear hPut hog
            rintro e w2 ⟨v2, sv2, p2, rs2, rfl, hP2, hbn2, hown2, hk2, hpp2, hv2, hvo, hbv⟩
            obtain ⟨vp, vc, rfl, _, hvc⟩ := hown2.shape
            have hsz0 := H.kp.size
            have hsz2 := hk2.size
            have hout2 : OwnB w2 w.heap.size 5 (.slice op G oc) (bs.take G) := H.out.kp hk2 (fun i hi hm => by
              have h1 := H.olo i hi
              have h2 := hdis i hi
              rcases List.mem_cons.1 hm with rfl | hm
              · omega
              · exact h2.1 hm)
            have hhas2 := hk2.blk H.has (fun hm => by
              rcases List.mem_cons.1 hm with h1 | h1
              · omega
              · have := hpp _ h1; omega)
            obtain ⟨G2, hG2⟩ : ∃ G2, G + og.1.length = G2 := ⟨_, rfl⟩
            rw [hG2] at hst htk
            have hG2b := hst.hle
            have HG2 := Lib.hid hG2
            have HTK := Lib.hid htk
            have HST := Lib.hid hst
            clear hG2 htk hst
            go_wp2_with (at_builtin; go_must (refine wpList_append_bytes rfl (.tmp 71) (.tmp 81) 32 rfl 5 Try.underlying32 infoU8 w.heap.size (bs.take G) og.1 (bs.take G2) G2 rfl rfl hout2 hown2.byt HTK.out HG2.out ?_ ?_ ?_; omega; omega; intro p3 c3 w3 hown3 hk3 hob3))
            have hhas3 := hk3.blk hhas2 (fun hm => by have := H.olo _ (by rw [ob_slice]; exact hm); omega)
            have hsz3 := hk3.size
            have hcap3 := hown3.cap.2.1
            have kk3 : Kp [] w w3 := (show Kp [] w w2 from H.kp.trans' hk2 (by simp) (fun i hi => .inr (by
                rcases List.mem_cons.1 hi with rfl | hi
                · omega
                · have := hpp i hi; omega))).trans' hk3 (by simp) (fun i hi => .inr (by have := H.olo i (by rw [ob_slice]; exact hi); omega))
            have hout3lo : ∀ i, i ∈ obp p3 → w.heap.size + 1 < i := by
              intro i hi
              rcases hob3 with h5 | h5
              · exact H.olo i (by rw [ob_slice, ← h5]; exact hi)
              · rw [h5] at hi; have := hhas2.lt; simp at hi; omega
            have hPc3 : PcAt w3 w.heap.size 0 51 (cur.set 0 sv2) p2 rs2 := hP2.kp hk3 (fun hm => by have := H.olo _ (by rw [ob_slice]; exact hm); omega)
              (fun i hi hm => by
                rcases hpp2 i hi with h1 | h1
                · exact (hdis i (by rw [ob_slice]; exact hm)).1 h1
                · have h2 := (H.out.lt i (by rw [ob_slice]; exact hm)).2; omega)
              (fun i hi hm => by
                rcases hvo i (.inr hi) with h1 | h1
                · exact (hdis i (by rw [ob_slice]; exact hm)).2 h1
                · have h2 := (H.out.lt i (by rw [ob_slice]; exact hm)).2; omega)
            have hpp3 : ∀ i, i ∈ obp p2 → w.heap.size + 1 < i ∧ i < w3.heap.size := by
              intro i hi
              rcases hpp2 i hi with h1 | h1
              · have := hpp i h1; omega
              · have := hhas2.lt; have := H.has.lt; omega
            have hobs3 : ∀ i, i ∈ obs rs2 → w.heap.size + 1 < i := by
              intro i hi
              rcases hvo i (.inr hi) with h1 | h1
              · exact hobs i h1
              · have := H.has.lt; omega
            have hdis3 : ∀ i, i ∈ ob (.slice p3 G2 c3) → i ∉ obp p2 ∧ i ∉ obs rs2 := by
              intro i hi
              rw [ob_slice] at hi
              rcases hob3 with h5 | h5
              · rw [h5] at hi
                have h6 := hdis i (by rw [ob_slice]; exact hi)
                have h7 := (H.out.lt i (by rw [ob_slice]; exact hi)).2
                refine ⟨fun hm => ?_, fun hm => ?_⟩
                · rcases hpp2 i hm with h1 | h1
                  · exact h6.1 h1
                  · omega
                · rcases hvo i (.inr hm) with h1 | h1
                  · exact h6.2 h1
                  · omega
              · rw [h5] at hi
                simp at hi
                subst hi
                refine ⟨fun hm => ?_, fun hm => ?_⟩
                · rcases hpp2 _ hm with h1 | h1
                  · have := hpp _ h1; omega
                  · omega
                · obtain ⟨r, hr, hir⟩ := mem_obs.1 hm
                  have := ((hP2.ok r hr).own.lt _ hir).2
                  omega
            have H0 := Lib.hid H
            have HP3 := Lib.hid hPc3
            have HD3 := Lib.hid hdis3
            clear hP2 hPc hhas2 hout2 hown2 hdis hdis3 hvo hv2 hpp2 hpp hobs hbn hob3 H hk2 hk3 hPc3
            go_loopw [13] (fun kv wx => ∃ k2 : Nat, A ≤ k2 ∧ k2 ≤ bs.length ∧ kv = .int .i64 k2 ∧ Kp [w.heap.size + 1] w3 wx ∧ Blk wx (w.heap.size + 1) (bools (bs.length + 1) fun i => hs i || (decide (A ≤ i) && decide (i < k2))) 4) (fun kv _ => bs.length - (intOf kv).toNat)
            case atStart => exact ⟨A, Nat.le_refl _, by omega, rfl, Kp.refl _ _, by rw [bools_congr (g := hs) (fun i => by rw [range_no, Bool.or_false])]; exact hhas3⟩
            case round =>
              obtain ⟨k2, hk2a, hk2b, rfl, hkx, hbx⟩ := hrel
              obtain ⟨wx, rfl⟩ : ∃ wx : World, wx = wr := ⟨_, rfl⟩
              by_cases hkE : k2 < bs.length
              · have hfz := hbx.frozen k2
                have hcl := hbx.cell (bools_get (f := fun i => hs i || (decide (A ≤ i) && decide (i < k2))) (show k2 < bs.length + 1 by omega))
                have hbx2 := hbx.set k2 (.bool true)
                rw [bools_set, bools_congr (g := fun i => hs i || (decide (A ≤ i) && decide (i < k2 + 1))) (fun i => by
                  by_cases h1 : i = k2
                  · subst h1; simp [hk2a]
                  · have e1 : decide (i < k2 + 1) = decide (i < k2) := by rw [decide_eq_decide]; omega
                    simp [h1, e1])] at hbx2
                have HBX := Lib.hid hbx2
                clear hbx hbx2
                go_wp2
                go_roundw
                case rel => exact ⟨k2 + 1, by omega, by omega, by go_num, hkx.setCell (.inl (by simp)) _, HBX.out⟩
                case measure => simp [intOf] <;> omega
              · have hkE2 : k2 = bs.length := by omega
                rw [hkE2] at hbx
                have hPx : PrAt w wx bs (fun i => hs i || (decide (A ≤ i) && decide (i < bs.length))) G2 og.2 (.slice p3 G2 c3) := by
                  refine ⟨kk3.trans' hkx (by simp) (by simp), ⟨_, p2, rs2, HP3.out.kp hkx (by simp) (fun i hi hm => by have := hpp3 i hi; simp at hm; omega) (fun i hi hm => by have := hobs3 i hi; simp at hm; omega), hbn2, fun i hi => by have := hpp3 i hi; have := hkx.size; omega, hobs3, HD3.out⟩, hbx, hown3.kp hkx (fun i hi hm => by rw [ob_slice] at hi; have := hout3lo i hi; simp at hm; omega), fun i hi => hout3lo i (by rw [ob_slice] at hi; exact hi), HST.out⟩
                clear hkE2
                go_wp2
                go_loopw [14] (fun gv wy => ∃ g2 : Nat, g2 ≤ G2 ∧ gv = .int .i64 g2 ∧ wy = wx) (fun gv _ => G2 - (intOf gv).toNat)
                case atStart => exact ⟨0, Nat.zero_le _, rfl, rfl⟩
                case round =>
                  obtain ⟨g2, hg2, rfl, rfl⟩ := hrel
                  have hcl := hPx.has.cell (bools_get (f := fun i => hs i || (decide (A ≤ i) && decide (i < bs.length))) (show g2 < bs.length + 1 by omega))
                  by_cases hgG : g2 < G2
                  · rw [show (hs g2 || (decide (A ≤ g2) && decide (g2 < bs.length))) = true from hPx.st.front g2 hgG] at hcl
                    go_wp2
                    go_roundw
                    case rel => exact ⟨g2 + 1, by omega, by go_num, by first | rfl | trivial⟩
                    case measure => simp [intOf] <;> omega
                  · obtain rfl : g2 = G2 := by omega
                    rw [show (hs g2 || (decide (A ≤ g2) && decide (g2 < bs.length))) = false from hPx.st.gap] at hcl
                    have HPX := Lib.hid hPx
                    clear hPx
                    go_wp2_with fail
                    refine (l13_same _ _ (bs.take g2) (bs.take g2) _ HPX.out.out.byt ((HB.out _ HPX.out.kp).take hG2b)).mono ?_
                    rw [show sameTo (bs.take g2) (bs.take g2) = true by simp [sameTo]]
                    rintro e w6 ⟨rfl, n6, rfl⟩
                    go_wp2_with fail
                    go_roundw
                    case rel =>
                      refine ⟨k + 1, _, g2, og.2, by omega, by go_num, HPX.out.drewN n6, (by omega)⟩
                    case measure => simp [intOf] <;> omega
    · by_cases hend : k = n
      · subst hend
        by_cases hcz : c0 = 0
        · subst hcz
          have hv0 : Byt wr (.slice q0 0 0) ((bs.drop 0).take (bs.length - 0)) := (HM.out 0 bs.length 0 (by omega) (by omega) (by omega)).1 rfl
          go_wp2_with fail
          obtain ⟨wo, rfl⟩ : ∃ wo : World, wo = wr := ⟨_, rfl⟩
          obtain ⟨cur, pp, rs, hPc, hbn, hpp, hobs, hdis⟩ := H.pc
          obtain ⟨og, hog⟩ : ∃ og, putTo l ((0 : Nat) - G : Int) ((bs.drop 0).take (bs.length - 0)) = og := ⟨_, rfl⟩
          obtain ⟨hst, htk⟩ := H.st.put (A := 0) (E := bs.length) (by omega) (by omega) hbl og hog
          have hPut := put_next hPc (by decide) (-(G : Int)) (.slice q0 0 0) ((bs.drop 0).take (bs.length - 0)) hv0 l hbn og (by simpa using hog)
          refine hPut.mono ?_
          clear hPut hog
          rintro e w2 ⟨v2, sv2, p2, rs2, rfl, hP2, hbn2, hown2, hk2, hpp2, hv2, hvo, hbv⟩
          obtain ⟨vp, vc, rfl, _, hvc⟩ := hown2.shape
          have hsz0 := H.kp.size
          have hsz2 := hk2.size
          have hout2 : OwnB w2 w.heap.size 5 (.slice op G oc) (bs.take G) := H.out.kp hk2 (fun i hi hm => by
            have h1 := H.olo i hi
            have h2 := hdis i hi
            rcases List.mem_cons.1 hm with rfl | hm
            · omega
            · exact h2.1 hm)
          have hhas2 := hk2.blk H.has (fun hm => by
            rcases List.mem_cons.1 hm with h1 | h1
            · omega
            · have := hpp _ h1; omega)
          obtain ⟨G2, hG2⟩ : ∃ G2, G + og.1.length = G2 := ⟨_, rfl⟩
          rw [hG2] at hst htk
          have hG2b := hst.hle
          have HG2 := Lib.hid hG2
          have HTK := Lib.hid htk
          have HST := Lib.hid hst
          clear hG2 htk hst
          go_wp2_with (at_builtin; go_must (refine wpList_append_bytes rfl (.tmp 71) (.tmp 81) 32 rfl 5 Try.underlying32 infoU8 w.heap.size (bs.take G) og.1 (bs.take G2) G2 rfl rfl hout2 hown2.byt HTK.out HG2.out ?_ ?_ ?_; omega; omega; intro p3 c3 w3 hown3 hk3 hob3))
          have hhas3 := hk3.blk hhas2 (fun hm => by have := H.olo _ (by rw [ob_slice]; exact hm); omega)
          have hsz3 := hk3.size
          have hcap3 := hown3.cap.2.1
          have kk3 : Kp [] w w3 := (show Kp [] w w2 from H.kp.trans' hk2 (by simp) (fun i hi => .inr (by
              rcases List.mem_cons.1 hi with rfl | hi
              · omega
              · have := hpp i hi; omega))).trans' hk3 (by simp) (fun i hi => .inr (by have := H.olo i (by rw [ob_slice]; exact hi); omega))
          have hout3lo : ∀ i, i ∈ obp p3 → w.heap.size + 1 < i := by
            intro i hi
            rcases hob3 with h5 | h5
            · exact H.olo i (by rw [ob_slice, ← h5]; exact hi)
            · rw [h5] at hi; have := hhas2.lt; simp at hi; omega
          have hPc3 : PcAt w3 w.heap.size 0 51 (cur.set 0 sv2) p2 rs2 := hP2.kp hk3 (fun hm => by have := H.olo _ (by rw [ob_slice]; exact hm); omega)
            (fun i hi hm => by
              rcases hpp2 i hi with h1 | h1
              · exact (hdis i (by rw [ob_slice]; exact hm)).1 h1
              · have h2 := (H.out.lt i (by rw [ob_slice]; exact hm)).2; omega)
            (fun i hi hm => by
              rcases hvo i (.inr hi) with h1 | h1
              · exact (hdis i (by rw [ob_slice]; exact hm)).2 h1
              · have h2 := (H.out.lt i (by rw [ob_slice]; exact hm)).2; omega)
          have hpp3 : ∀ i, i ∈ obp p2 → w.heap.size + 1 < i ∧ i < w3.heap.size := by
            intro i hi
            rcases hpp2 i hi with h1 | h1
            · have := hpp i h1; omega
            · have := hhas2.lt; have := H.has.lt; omega
          have hobs3 : ∀ i, i ∈ obs rs2 → w.heap.size + 1 < i := by
            intro i hi
            rcases hvo i (.inr hi) with h1 | h1
            · exact hobs i h1
            · have := H.has.lt; omega
          have hdis3 : ∀ i, i ∈ ob (.slice p3 G2 c3) → i ∉ obp p2 ∧ i ∉ obs rs2 := by
            intro i hi
            rw [ob_slice] at hi
            rcases hob3 with h5 | h5
            · rw [h5] at hi
              have h6 := hdis i (by rw [ob_slice]; exact hi)
              have h7 := (H.out.lt i (by rw [ob_slice]; exact hi)).2
              refine ⟨fun hm => ?_, fun hm => ?_⟩
              · rcases hpp2 i hm with h1 | h1
                · exact h6.1 h1
                · omega
              · rcases hvo i (.inr hm) with h1 | h1
                · exact h6.2 h1
                · omega
            · rw [h5] at hi
              simp at hi
              subst hi
              refine ⟨fun hm => ?_, fun hm => ?_⟩
              · rcases hpp2 _ hm with h1 | h1
                · have := hpp _ h1; omega
                · omega
              · obtain ⟨r, hr, hir⟩ := mem_obs.1 hm
                have := ((hP2.ok r hr).own.lt _ hir).2
                omega
          have H0 := Lib.hid H
          have HP3 := Lib.hid hPc3
          have HD3 := Lib.hid hdis3
          clear hP2 hPc hhas2 hout2 hown2 hdis hdis3 hvo hv2 hpp2 hpp hobs hbn hob3 H hk2 hk3 hPc3
          go_loopw [13] (fun kv wx => ∃ k2 : Nat, 0 ≤ k2 ∧ k2 ≤ bs.length ∧ kv = .int .i64 k2 ∧ Kp [w.heap.size + 1] w3 wx ∧ Blk wx (w.heap.size + 1) (bools (bs.length + 1) fun i => hs i || (decide (0 ≤ i) && decide (i < k2))) 4) (fun kv _ => bs.length - (intOf kv).toNat)
          case atStart => exact ⟨0, Nat.le_refl _, by omega, rfl, Kp.refl _ _, by rw [bools_congr (g := hs) (fun i => by rw [range_no, Bool.or_false])]; exact hhas3⟩
          case round =>
            obtain ⟨k2, hk2a, hk2b, rfl, hkx, hbx⟩ := hrel
            obtain ⟨wx, rfl⟩ : ∃ wx : World, wx = wr := ⟨_, rfl⟩
            by_cases hkE : k2 < bs.length
            · exfalso; omega
            · have hkE2 : k2 = bs.length := by omega
              rw [hkE2] at hbx
              have hPx : PrAt w wx bs (fun i => hs i || (decide (0 ≤ i) && decide (i < bs.length))) G2 og.2 (.slice p3 G2 c3) := by
                refine ⟨kk3.trans' hkx (by simp) (by simp), ⟨_, p2, rs2, HP3.out.kp hkx (by simp) (fun i hi hm => by have := hpp3 i hi; simp at hm; omega) (fun i hi hm => by have := hobs3 i hi; simp at hm; omega), hbn2, fun i hi => by have := hpp3 i hi; have := hkx.size; omega, hobs3, HD3.out⟩, hbx, hown3.kp hkx (fun i hi hm => by rw [ob_slice] at hi; have := hout3lo i hi; simp at hm; omega), fun i hi => hout3lo i (by rw [ob_slice] at hi; exact hi), HST.out⟩
              clear hkE2
              go_wp2
              go_loopw [14] (fun gv wy => ∃ g2 : Nat, g2 ≤ G2 ∧ gv = .int .i64 g2 ∧ wy = wx) (fun gv _ => G2 - (intOf gv).toNat)
              case atStart => exact ⟨0, Nat.zero_le _, rfl, rfl⟩
              case round =>
                obtain ⟨g2, hg2, rfl, rfl⟩ := hrel
                have hcl := hPx.has.cell (bools_get (f := fun i => hs i || (decide (0 ≤ i) && decide (i < bs.length))) (show g2 < bs.length + 1 by omega))
                by_cases hgG : g2 < G2
                · rw [show (hs g2 || (decide (0 ≤ g2) && decide (g2 < bs.length))) = true from hPx.st.front g2 hgG] at hcl
                  go_wp2
                  go_roundw
                  case rel => exact ⟨g2 + 1, by omega, by go_num, by first | rfl | trivial⟩
                  case measure => simp [intOf] <;> omega
                · obtain rfl : g2 = G2 := by omega
                  rw [show (hs g2 || (decide (0 ≤ g2) && decide (g2 < bs.length))) = false from hPx.st.gap] at hcl
                  have HPX := Lib.hid hPx
                  clear hPx
                  go_wp2_with fail
                  refine (l13_same _ _ (bs.take g2) (bs.take g2) _ HPX.out.out.byt ((HB.out _ HPX.out.kp).take hG2b)).mono ?_
                  rw [show sameTo (bs.take g2) (bs.take g2) = true by simp [sameTo]]
                  rintro e w6 ⟨rfl, n6, rfl⟩
                  go_wp2_with fail
                  go_roundw
                  case rel =>
                    refine ⟨k + 1, _, g2, og.2, by omega, by go_num, HPX.out.drewN n6, (fun _ i hi => by simp [hi])⟩
                  case measure => simp [intOf] <;> omega
        · have hv0 : Byt wr (.slice q0 bs.length c0) ((bs.drop 0).take (bs.length - 0)) := by
            have := HB.out wr H.kp
            rwa [List.drop_zero, Nat.sub_zero, List.take_of_length_le (Nat.le_refl _)]
          go_wp2_with fail
          obtain ⟨wo, rfl⟩ : ∃ wo : World, wo = wr := ⟨_, rfl⟩
          obtain ⟨cur, pp, rs, hPc, hbn, hpp, hobs, hdis⟩ := H.pc
          obtain ⟨og, hog⟩ : ∃ og, putTo l ((0 : Nat) - G : Int) ((bs.drop 0).take (bs.length - 0)) = og := ⟨_, rfl⟩
          obtain ⟨hst, htk⟩ := H.st.put (A := 0) (E := bs.length) (by omega) (by omega) hbl og hog
          have hPut := put_next hPc (by decide) (-(G : Int)) (.slice q0 bs.length c0) ((bs.drop 0).take (bs.length - 0)) hv0 l hbn og (by simpa using hog)
          refine hPut.mono ?_
          clear hPut hog
          rintro e w2 ⟨v2, sv2, p2, rs2, rfl, hP2, hbn2, hown2, hk2, hpp2, hv2, hvo, hbv⟩
          obtain ⟨vp, vc, rfl, _, hvc⟩ := hown2.shape
          have hsz0 := H.kp.size
          have hsz2 := hk2.size
          have hout2 : OwnB w2 w.heap.size 5 (.slice op G oc) (bs.take G) := H.out.kp hk2 (fun i hi hm => by
            have h1 := H.olo i hi
            have h2 := hdis i hi
            rcases List.mem_cons.1 hm with rfl | hm
            · omega
            · exact h2.1 hm)
          have hhas2 := hk2.blk H.has (fun hm => by
            rcases List.mem_cons.1 hm with h1 | h1
            · omega
            · have := hpp _ h1; omega)
          obtain ⟨G2, hG2⟩ : ∃ G2, G + og.1.length = G2 := ⟨_, rfl⟩
          rw [hG2] at hst htk
          have hG2b := hst.hle
          have HG2 := Lib.hid hG2
          have HTK := Lib.hid htk
          have HST := Lib.hid hst
          clear hG2 htk hst
          go_wp2_with (at_builtin; go_must (refine wpList_append_bytes rfl (.tmp 71) (.tmp 81) 32 rfl 5 Try.underlying32 infoU8 w.heap.size (bs.take G) og.1 (bs.take G2) G2 rfl rfl hout2 hown2.byt HTK.out HG2.out ?_ ?_ ?_; omega; omega; intro p3 c3 w3 hown3 hk3 hob3))
          have hhas3 := hk3.blk hhas2 (fun hm => by have := H.olo _ (by rw [ob_slice]; exact hm); omega)
          have hsz3 := hk3.size
          have hcap3 := hown3.cap.2.1
          have kk3 : Kp [] w w3 := (show Kp [] w w2 from H.kp.trans' hk2 (by simp) (fun i hi => .inr (by
              rcases List.mem_cons.1 hi with rfl | hi
              · omega
              · have := hpp i hi; omega))).trans' hk3 (by simp) (fun i hi => .inr (by have := H.olo i (by rw [ob_slice]; exact hi); omega))
          have hout3lo : ∀ i, i ∈ obp p3 → w.heap.size + 1 < i := by
            intro i hi
            rcases hob3 with h5 | h5
            · exact H.olo i (by rw [ob_slice, ← h5]; exact hi)
            · rw [h5] at hi; have := hhas2.lt; simp at hi; omega
          have hPc3 : PcAt w3 w.heap.size 0 51 (cur.set 0 sv2) p2 rs2 := hP2.kp hk3 (fun hm => by have := H.olo _ (by rw [ob_slice]; exact hm); omega)
            (fun i hi hm => by
              rcases hpp2 i hi with h1 | h1
              · exact (hdis i (by rw [ob_slice]; exact hm)).1 h1
              · have h2 := (H.out.lt i (by rw [ob_slice]; exact hm)).2; omega)
            (fun i hi hm => by
              rcases hvo i (.inr hi) with h1 | h1
              · exact (hdis i (by rw [ob_slice]; exact hm)).2 h1
              · have h2 := (H.out.lt i (by rw [ob_slice]; exact hm)).2; omega)
          have hpp3 : ∀ i, i ∈ obp p2 → w.heap.size + 1 < i ∧ i < w3.heap.size := by
            intro i hi
            rcases hpp2 i hi with h1 | h1
            · have := hpp i h1; omega
            · have := hhas2.lt; have := H.has.lt; omega
          have hobs3 : ∀ i, i ∈ obs rs2 → w.heap.size + 1 < i := by
            intro i hi
            rcases hvo i (.inr hi) with h1 | h1
            · exact hobs i h1
            · have := H.has.lt; omega
          have hdis3 : ∀ i, i ∈ ob (.slice p3 G2 c3) → i ∉ obp p2 ∧ i ∉ obs rs2 := by
            intro i hi
            rw [ob_slice] at hi
            rcases hob3 with h5 | h5
            · rw [h5] at hi
              have h6 := hdis i (by rw [ob_slice]; exact hi)
              have h7 := (H.out.lt i (by rw [ob_slice]; exact hi)).2
              refine ⟨fun hm => ?_, fun hm => ?_⟩
              · rcases hpp2 i hm with h1 | h1
                · exact h6.1 h1
                · omega
              · rcases hvo i (.inr hm) with h1 | h1
                · exact h6.2 h1
                · omega
            · rw [h5] at hi
              simp at hi
              subst hi
              refine ⟨fun hm => ?_, fun hm => ?_⟩
              · rcases hpp2 _ hm with h1 | h1
                · have := hpp _ h1; omega
                · omega
              · obtain ⟨r, hr, hir⟩ := mem_obs.1 hm
                have := ((hP2.ok r hr).own.lt _ hir).2
                omega
          have H0 := Lib.hid H
          have HP3 := Lib.hid hPc3
          have HD3 := Lib.hid hdis3
          clear hP2 hPc hhas2 hout2 hown2 hdis hdis3 hvo hv2 hpp2 hpp hobs hbn hob3 H hk2 hk3 hPc3
          go_loopw [13] (fun kv wx => ∃ k2 : Nat, 0 ≤ k2 ∧ k2 ≤ bs.length ∧ kv = .int .i64 k2 ∧ Kp [w.heap.size + 1] w3 wx ∧ Blk wx (w.heap.size + 1) (bools (bs.length + 1) fun i => hs i || (decide (0 ≤ i) && decide (i < k2))) 4) (fun kv _ => bs.length - (intOf kv).toNat)
          case atStart => exact ⟨0, Nat.le_refl _, by omega, rfl, Kp.refl _ _, by rw [bools_congr (g := hs) (fun i => by rw [range_no, Bool.or_false])]; exact hhas3⟩
          case round =>
            obtain ⟨k2, hk2a, hk2b, rfl, hkx, hbx⟩ := hrel
            obtain ⟨wx, rfl⟩ : ∃ wx : World, wx = wr := ⟨_, rfl⟩
            by_cases hkE : k2 < bs.length
            · have hfz := hbx.frozen k2
              have hcl := hbx.cell (bools_get (f := fun i => hs i || (decide (0 ≤ i) && decide (i < k2))) (show k2 < bs.length + 1 by omega))
              have hbx2 := hbx.set k2 (.bool true)
              rw [bools_set, bools_congr (g := fun i => hs i || (decide (0 ≤ i) && decide (i < k2 + 1))) (fun i => by
                by_cases h1 : i = k2
                · subst h1; simp [hk2a]
                · have e1 : decide (i < k2 + 1) = decide (i < k2) := by rw [decide_eq_decide]; omega
                  simp [h1, e1])] at hbx2
              have HBX := Lib.hid hbx2
              clear hbx hbx2
              go_wp2
              go_roundw
              case rel => exact ⟨k2 + 1, by omega, by omega, by go_num, hkx.setCell (.inl (by simp)) _, HBX.out⟩
              case measure => simp [intOf] <;> omega
            · have hkE2 : k2 = bs.length := by omega
              rw [hkE2] at hbx
              have hPx : PrAt w wx bs (fun i => hs i || (decide (0 ≤ i) && decide (i < bs.length))) G2 og.2 (.slice p3 G2 c3) := by
                refine ⟨kk3.trans' hkx (by simp) (by simp), ⟨_, p2, rs2, HP3.out.kp hkx (by simp) (fun i hi hm => by have := hpp3 i hi; simp at hm; omega) (fun i hi hm => by have := hobs3 i hi; simp at hm; omega), hbn2, fun i hi => by have := hpp3 i hi; have := hkx.size; omega, hobs3, HD3.out⟩, hbx, hown3.kp hkx (fun i hi hm => by rw [ob_slice] at hi; have := hout3lo i hi; simp at hm; omega), fun i hi => hout3lo i (by rw [ob_slice] at hi; exact hi), HST.out⟩
              clear hkE2
              go_wp2
              go_loopw [14] (fun gv wy => ∃ g2 : Nat, g2 ≤ G2 ∧ gv = .int .i64 g2 ∧ wy = wx) (fun gv _ => G2 - (intOf gv).toNat)
              case atStart => exact ⟨0, Nat.zero_le _, rfl, rfl⟩
              case round =>
                obtain ⟨g2, hg2, rfl, rfl⟩ := hrel
                have hcl := hPx.has.cell (bools_get (f := fun i => hs i || (decide (0 ≤ i) && decide (i < bs.length))) (show g2 < bs.length + 1 by omega))
                by_cases hgG : g2 < G2
                · rw [show (hs g2 || (decide (0 ≤ g2) && decide (g2 < bs.length))) = true from hPx.st.front g2 hgG] at hcl
                  go_wp2
                  go_roundw
                  case rel => exact ⟨g2 + 1, by omega, by go_num, by first | rfl | trivial⟩
                  case measure => simp [intOf] <;> omega
                · obtain rfl : g2 = G2 := by omega
                  rw [show (hs g2 || (decide (0 ≤ g2) && decide (g2 < bs.length))) = false from hPx.st.gap] at hcl
                  have HPX := Lib.hid hPx
                  clear hPx
                  go_wp2_with fail
                  refine (l13_same _ _ (bs.take g2) (bs.take g2) _ HPX.out.out.byt ((HB.out _ HPX.out.kp).take hG2b)).mono ?_
                  rw [show sameTo (bs.take g2) (bs.take g2) = true by simp [sameTo]]
                  rintro e w6 ⟨rfl, n6, rfl⟩
                  go_wp2_with fail
                  go_roundw
                  case rel =>
                    refine ⟨k + 1, _, g2, og.2, by omega, by go_num, HPX.out.drewN n6, (fun _ i hi => by simp [hi])⟩
                  case measure => simp [intOf] <;> omega
      · obtain ⟨hG2, hl2⟩ := H.st.full (HF.out (by omega))
        subst hl2
        obtain ⟨cur, pp, rs, hPc, hbn, _⟩ := H.pc
        have hout := H.out
        rw [List.take_of_length_le (by omega)] at hout
        have HG2 := Lib.hid hG2
        clear hG2
        go_wp2_with fail
        refine (l13_same _ _ bs bs _ hout.byt (HB.out _ H.kp)).mono ?_
        rw [show sameTo bs bs = true by simp [sameTo]]
        rintro e w2 ⟨rfl, n2, rfl⟩
        go_wp2_with fail
        refine (held_any (hPc.kp (L := []) (by repeat (first | exact Kp.refl _ _ | apply Kp.drewN | apply Kp.alloc)) (by simp) (by simp) (by simp))).mono ?_
        rw [hbn]
        rintro e w3 ⟨rfl, hk3⟩
        simp only [heldTo]
        go_wp2_with fail
        refine (known_any _).mono ?_
        rintro e w4 ⟨rfl, hk4⟩
        go_wp2_with fail
        go_ret
        exact ⟨rfl, ((H.kp.drewN _).trans hk3).trans hk4⟩

set_option maxRecDepth 10000 in
set_option maxHeartbeats 800000 in
theorem pr_none (L : Int) (q0 p : Option Addr) (m c0 n c : Nat) (w : World) (h : 1500 < m ∨ (m ≤ 1500 ∧ 200 < n) ∨ (m ≤ 1500 ∧ n ≤ 200 ∧ L < 1) ∨ (m ≤ 1500 ∧ n ≤ 200 ∧ 1 ≤ L ∧ 2000 < L)) :
    Calls Try.prog 5 #[.slice q0 m c0, .slice p n c, .int .i64 L] w fun e w' => e = .returned (.bool true) ∧ Kp [] w w' := by
  rcases h with h1 | ⟨h1, h2⟩ | ⟨h1, h2, h3⟩ | ⟨h1, h2, h3, h4⟩
  · go_enter Try.func5, Try.ntmps5
    go_wp2_with (go_at_call 9; refine (known_any _).mono ?_; rintro e w2 ⟨rfl, hk2⟩)
    go_ret
    exact ⟨rfl, hk2⟩
  · go_enter Try.func5, Try.ntmps5
    go_wp2_with (go_at_call 9; refine (known_any _).mono ?_; rintro e w2 ⟨rfl, hk2⟩)
    go_ret
    exact ⟨rfl, hk2⟩
  · go_enter Try.func5, Try.ntmps5
    go_wp2_with (go_at_call 9; refine (known_any _).mono ?_; rintro e w2 ⟨rfl, hk2⟩)
    go_ret
    exact ⟨rfl, hk2⟩
  · go_enter Try.func5, Try.ntmps5
    go_wp2_with (go_at_call 9; refine (known_any _).mono ?_; rintro e w2 ⟨rfl, hk2⟩)
    go_ret
    exact ⟨rfl, hk2⟩

theorem pr_walk (L : Int) (q0 : Option Addr) (m c0 : Nat) (bs : List UInt8) (p : Option Addr) (n c : Nat) (z : Nat → Int) (w : World) (hb : Byt w (.slice q0 m c0) bs) (hS : IntsAt w p n z) :
    Calls Try.prog 5 #[.slice q0 m c0, .slice p n c, .int .i64 L] w fun e w' => e = .returned (.bool true) ∧ Kp [] w w' := by
  by_cases h : 1500 < m ∨ (m ≤ 1500 ∧ 200 < n) ∨ (m ≤ 1500 ∧ n ≤ 200 ∧ L < 1) ∨ (m ≤ 1500 ∧ n ≤ 200 ∧ 1 ≤ L ∧ 2000 < L)
  · exact pr_none L q0 p m c0 n c w h
  · obtain ⟨r, rfl⟩ := Int.eq_ofNat_of_zero_le (show 0 ≤ L by omega)
    obtain ⟨rfl, _⟩ := hb.len
    exact pr_some q0 c0 bs p n c z r w (by omega) (by omega) hb (by omega) hS (by omega)

end Go.Proofs.Ytodedpmedkgkmaa

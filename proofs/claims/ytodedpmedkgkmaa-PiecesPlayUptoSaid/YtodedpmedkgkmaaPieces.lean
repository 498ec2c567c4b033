/-
  ring.Pieces: runs of bytes.
-/
import Derived.Test.YtodedpmedkgkmaaHelp
set_option linter.unusedVariables false
set_option linter.unusedSimpArgs false
namespace Go.Proofs.Ytodedpmedkgkmaa
open Go.RowKit

set_option maxHeartbeats 400000 in
theorem end_any (a : Int) (p : Option Addr) (n c : Nat) (w : World) (h0 : -4611686018427387904 ≤ a) (h1 : a ≤ 4611686018427387904) (hn : n ≤ 4611686018427387) :
    Calls Try.prog 35 #[.agg #[.int .i64 a, .slice p n c]] w fun e w' => e = .returned (.int .i64 (a + n)) ∧ Kp [] w w' := by
  go_enter Try.func35, Try.ntmps35
  go_wp2
  go_ret
  exact ⟨rfl, by repeat (first | exact Kp.refl _ _ | apply Kp.drewN | apply Kp.alloc)⟩

/-- what Clone gives -/
def Cloned (w : World) (l : List UInt8) (e : Ending) (w' : World) : Prop := ∃ v, e = .returned v ∧ OwnB w' w.heap.size 5 v l ∧ Kp [] w w'

set_option maxHeartbeats 400000 in
theorem clone_any (b o c : Nat) (l : List UInt8) (w : World) (hb : Byt w (.slice (some ⟨b, o, none⟩) l.length c) l) (hl : l.length ≤ 1073741824) :
    Calls Try.prog 34 #[.slice (some ⟨b, o, none⟩) l.length c] w (Cloned w l) := by
  have HK := Lib.hid (show ∀ (w1 : World), Kp [] w w1 → Byt w1 (.slice (some ⟨b, o, none⟩) l.length c) l from fun w1 k => hb.kp k (by simp))
  clear hb
  have hnil := fun (w : World) => Lib.run_eql_slice_nil (P := Try.prog) w 32 5 (some ⟨b, o, none⟩) l.length c 0 0 Try.underlying32
  go_enter Try.func34, Try.ntmps34
  go_wp2_with (at_builtin; refine wpList_append_bytes rfl (.tmp 5) (.tmp 6) 32 rfl 5 Try.underlying32 infoU8 w.heap.size [] l l l.length rfl rfl (own_new w _ _ (Nat.le_refl _)) (HK.out _ ((Kp.refl _ _).alloc _)) rfl ?_ ?_ ?_ ?_; omega; omega; simp; intro p1 c1 w1 hown1 hk1 ho1)
  go_ret
  exact ⟨_, rfl, hown1, ((Kp.refl [] w).alloc _).trans' hk1 (by simp) (fun i hi => .inr (by simp [obp] at hi; omega))⟩

/-- two runs that touch, as one: where both have bytes the older one's stay -/
def mergedTo (a1 : Nat) (l1 : List UInt8) (a2 : Nat) (l2 : List UInt8) : List UInt8 :=
  splice (splice (List.replicate (max (a1 + l1.length) (a2 + l2.length) - min a1 a2) 0) (a1 - min a1 a2) l1) (a2 - min a1 a2) l2

/-- what merged gives -/
def Merged (w : World) (a1 : Nat) (l1 : List UInt8) (a2 : Nat) (l2 : List UInt8) (e : Ending) (w' : World) : Prop :=
  ∃ v, e = .returned (.agg #[.int .i64 (min a1 a2 : Nat), v]) ∧ OwnB w' w.heap.size 5 v (mergedTo a1 l1 a2 l2) ∧ Kp [] w w'


theorem merged_post {w w5 : World} {a1 a2 m N g b : Nat} {l1 l2 : List UInt8} {v1 v2 : Value} (hm : m = min a1 a2) (hN : N = max (a1 + l1.length) (a2 + l2.length) - min a1 a2) (hg : w.heap.size ≤ g) (hbb : w.heap.size ≤ b ∧ b ≠ g)
    (hb5 : Blk w5 g ((splice (splice (List.replicate N (0 : UInt8)) (a1 - m) l1) (a2 - m) l2).map bv) 5) (k5 : Kp [] w w5) (hN3 : N ≤ 1073741824) :
    Merged w a1 l1 a2 l2 (.returned (.agg #[.int .i64 (m : Nat), .slice (some ⟨g, 0, none⟩) N N])) ((w5.setCell ⟨b, 0, none⟩ v1).setCell ⟨b, 1, none⟩ v2) := by
  subst hm
  have hl : (mergedTo a1 l1 a2 l2).length = N := by
    unfold mergedTo
    rw [← hN]
    have e1 : a1 - min a1 a2 + l1.length ≤ (List.replicate N (0 : UInt8)).length := by simp; omega
    rw [length_splice' (by rw [length_splice' e1]; simp; omega), length_splice' e1]; simp
  have hb6 : Blk ((w5.setCell ⟨b, 0, none⟩ v1).setCell ⟨b, 1, none⟩ v2) g ((mergedTo a1 l1 a2 l2).map bv) 5 := by
    have : mergedTo a1 l1 a2 l2 = splice (splice (List.replicate N (0 : UInt8)) (a1 - min a1 a2) l1) (a2 - min a1 a2) l2 := by unfold mergedTo; rw [← hN]
    rw [this]
    exact (hb5.other hbb.2 _).other hbb.2 _
  have ho := own_of_blk (base := w.heap.size) hb6 hg (by rw [hl]; unfold maxLen; omega)
  rw [hl] at ho
  refine ⟨_, rfl, ?_, (k5.setCell (.inr hbb.1) _).setCell (.inr hbb.1) _⟩
  unfold OwnB
  rw [hl]
  exact ho

set_option maxHeartbeats 1600000 in
theorem merged_any (a1 a2 n1 n2 c1 c2 : Nat) (p1 p2 : Option Addr) (l1 l2 : List UInt8) (w : World) (hb1 : Byt w (.slice p1 n1 c1) l1) (hb2 : Byt w (.slice p2 n2 c2) l2)
    (h1 : a1 + n1 ≤ 1073741824) (h2 : a2 + n2 ≤ 1073741824) (hp1 : 0 < n1) (hp2 : 0 < n2) :
    Calls Try.prog 36 #[.agg #[.int .i64 a1, .slice p1 n1 c1], .agg #[.int .i64 a2, .slice p2 n2 c2]] w (Merged w a1 l1 a2 l2) := by
  rcases Nat.lt_or_ge a2 a1 with hm | hm
  · rcases Nat.lt_or_ge (a1 + n1) (a2 + n2) with hE | hE
    · obtain ⟨N, hN⟩ : ∃ N, N = (a2 + n2) - a2 := ⟨_, rfl⟩
      have hN1 : a1 - a2 + n1 ≤ N := by omega
      have hN2 : a2 - a2 + n2 ≤ N := by omega
      have hN3 : N ≤ 1073741824 := by omega
      have HN := Lib.hid hN
      clear hN
      have HK1 := Lib.hid (show ∀ w1, Kp [] w w1 → Byt w1 (.slice p1 n1 c1) l1 from fun w1 k => hb1.kp k (by simp))
      have HK2 := Lib.hid (show ∀ w1, Kp [] w w1 → Byt w1 (.slice p2 n2 c2) l2 from fun w1 k => hb2.kp k (by simp))
      have hl1 := Lib.hid hb1.len.1
      have hl2 := Lib.hid hb2.len.1
      go_enter Try.func36, Try.ntmps36
      go_wp2
      refine wp_region_mix [([0, 2, 5, 7, 1, 3, 4], [6], [0, 1, 2, 3, 4, 7]), ([], [8], [0, 1, 2, 3, 4]), ([9, 10, 11], [], [])] (by kernel_rfl) (by kernel_rfl) ?_
      refine mix_cons (by repeat (first | exact pick_end | apply (pick_step rfl))) (by repeat (first | exact pick_end | apply (pick_step rfl))) (by repeat (first | exact pick_end | apply (pick_step rfl))) ?_
      repeat (go_big_quiet_step (fail))
      refine wpQuiet_nil ?_
      intro nq
      go_wp2_with (go_at_call 35; refine (end_any a1 p1 n1 c1 _ (by omega) (by omega) (by omega)).mono ?_; rintro e w1 ⟨rfl, hk1⟩)
      have B1 := ((Blk.new w [.int .i64 a1, .slice p1 n1 c1] 70).alloc (.cells #[.int .i64 a2, .slice p2 n2 c2] 70)).alloc (.cells #[.int .i64 0, .slice none 0 0] 70)
      have B2 := (Blk.new (w.alloc (.cells #[.int .i64 a1, .slice p1 n1 c1] 70)) [.int .i64 a2, .slice p2 n2 c2] 70).alloc (.cells #[.int .i64 0, .slice none 0 0] 70)
      have B3 := Blk.new ((w.alloc (.cells #[.int .i64 a1, .slice p1 n1 c1] 70)).alloc (.cells #[.int .i64 a2, .slice p2 n2 c2] 70)) [.int .i64 0, .slice none 0 0] 70
      simp only [World.size_alloc] at B2 B3
      have D1 := hk1.blk (B1.drewN _) (by simp)
      have D2 := hk1.blk (B2.drewN _) (by simp)
      have D3 := hk1.blk (B3.drewN _) (by simp)
      clear B1 B2 B3
      have x1 := D1.cell (off := 0) rfl
      have x2 := D1.cell (off := 1) rfl
      have x3 := D2.cell (off := 0) rfl
      have x4 := D2.cell (off := 1) rfl
      go_wp2_with fail
      try simp only [Act.put, List.setIfInBounds_toArray, List.set_cons_zero, List.set_cons_succ]
      refine ⟨?_, ?_⟩
      · unfold AgainAll; repeat (go_big_quiet_step (fail))
        exact again_end
      refine mix_cons (by repeat (first | exact pick_end | apply (pick_step rfl))) (by repeat (first | exact pick_end | apply (pick_step rfl))) (by repeat (first | exact pick_end | apply (pick_step rfl))) ?_
      refine wpQuiet_nil ?_
      intro nq
      go_wp2_with (go_at_call 35; refine (end_any a2 p2 n2 c2 _ (by omega) (by omega) (by omega)).mono ?_; rintro e w2 ⟨rfl, hk2⟩)
      have E1 := hk2.blk (D1.drewN _) (by simp)
      have E2 := hk2.blk (D2.drewN _) (by simp)
      have E3 := hk2.blk (D3.drewN _) (by simp)
      clear x1 x2 x3 x4
      have x1 := E1.cell (off := 0) rfl
      have x2 := E1.cell (off := 1) rfl
      have x3 := E2.cell (off := 0) rfl
      have x4 := E2.cell (off := 1) rfl
      go_wp2_with fail
      try simp only [Act.put, List.setIfInBounds_toArray, List.set_cons_zero, List.set_cons_succ]
      refine ⟨?_, ?_⟩
      · unfold AgainAll; repeat (go_big_quiet_step (fail))
        exact again_end
      refine mix_cons' (by repeat (first | exact pick_end | apply (pick_step rfl))) (by repeat (first | exact pick_end | apply (pick_step rfl))) ?_
      repeat (go_big_quiet_step (fail))
      refine wpQuiet_nil ?_
      intro nq
      go_wp2_with fail
      refine mix_nil ?_
      have hz1 := hk1.size
      have hz2 := hk2.size
      simp only [World.size_alloc, World.heap_drewN] at hz1 hz2
      go_wp2_with (at_make; go_must (refine wpList_make_bytes rfl (.tmp 20) (.tmp 20) 32 rfl 5 Try.underlying32 infoU8 _ _ N rfl rfl ?_ ?_ ?_ ?_; (have := HN.out; omega); (have := HN.out; omega); omega; intro w3 hb3 hk3 hz3))
      have F1 := hk3.blk (E1.drewN _) (by simp)
      have F2 := hk3.blk (E2.drewN _) (by simp)
      have F3 := hk3.blk (E3.drewN _) (by simp)
      have x1 := F1.cell (off := 0) rfl
      have x2 := F1.cell (off := 1) rfl
      go_wp2_with fail
      refine wp_region_mix [([0, 1, 3, 6, 2, 7, 4, 5], [8], [])] (by kernel_rfl) (by kernel_rfl) ?_
      refine mix_cons' (by repeat (first | exact pick_end | apply (pick_step rfl))) (by repeat (first | exact pick_end | apply (pick_step rfl))) ?_
      repeat (go_big_quiet_step (fail))
      refine wpQuiet_nil ?_
      intro nq
      have k2 : Kp [] w w2 := (((show Kp [] w _ from (by repeat (first | exact Kp.refl _ _ | apply Kp.drewN | apply Kp.alloc))).trans hk1).drewN _).trans hk2
      have k3 : Kp [] w w3 := (k2.drewN _).trans hk3
      refine wpList_copy_mem rfl (.tmp 27) (.tmp 29) 32 32 rfl 5 Try.underlying32 (by kernel_rfl) _ _ _ _ _ _ rfl rfl w2.heap.size (a1 - a2) (List.replicate N (0 : UInt8)) 5 (by exact hb3) l1 n1 hl1.out.symm (by omega) ?_ (by simp; omega) ?_
      · intro _
        obtain ⟨b, o, rfl, hc⟩ := (HK1.out _ (k3.drewN _)).ptr (k := 0) (by have := hl1.out; omega)
        exact ⟨by simp, b, o, rfl, fun j hj => hc j (by have := hl1.out; omega)⟩
      intro w4 hb4 hk4
      have G2 := hk4.blk (F2.drewN _) (by simp; omega)
      have G3 := hk4.blk (F3.drewN _) (by simp; omega)
      clear x1 x2
      have x1 := G2.cell (off := 0) rfl
      have x2 := G2.cell (off := 1) rfl
      go_wp2_with fail
      refine mix_nil ?_
      try simp only [Act.put, List.setIfInBounds_toArray, List.set_cons_zero, List.set_cons_succ]
      go_wp2_with fail
      refine wp_region_mix [([0, 1, 3, 6, 2, 7, 4, 5], [8], [])] (by kernel_rfl) (by kernel_rfl) ?_
      refine mix_cons' (by repeat (first | exact pick_end | apply (pick_step rfl))) (by repeat (first | exact pick_end | apply (pick_step rfl))) ?_
      repeat (go_big_quiet_step (fail))
      refine wpQuiet_nil ?_
      intro nq
      have k4 : Kp [] w w4 := (k3.drewN _).trans' hk4 (by simp) (fun i hi => .inr (by simp at hi; have := k2.size; omega))
      refine wpList_copy_mem rfl (.tmp 36) (.tmp 38) 32 32 rfl 5 Try.underlying32 (by kernel_rfl) _ _ _ _ _ _ rfl rfl w2.heap.size (a2 - a2) _ 5 (by exact hb4) l2 n2 hl2.out.symm (by omega) ?_ (by rw [length_splice' (by have := hl1.out; simp; omega)]; simp; omega) ?_
      · intro _
        obtain ⟨b, o, rfl, hc⟩ := (HK2.out _ (k4.drewN _)).ptr (k := 0) (by have := hl2.out; omega)
        exact ⟨by simp, b, o, rfl, fun j hj => hc j (by have := hl2.out; omega)⟩
      intro w5 hb5 hk5
      have H3 := hk5.blk (G3.drewN _) (by simp; omega)
      have k5 : Kp [] w w5 := (k4.drewN _).trans' hk5 (by simp) (fun i hi => .inr (by simp at hi; have := k2.size; omega))
      clear x1 x2
      have x1 := H3.cell (off := 0) rfl
      have x2 := H3.cell (off := 1) rfl
      have f1 := H3.frozen 0
      have f2 := H3.frozen 1
      go_wp2_with fail
      refine mix_nil ?_
      try simp only [Act.put, List.setIfInBounds_toArray, List.set_cons_zero, List.set_cons_succ]
      go_wp2_with fail
      refine bodyPost_ret (v := .agg #[.int .i64 (a2 : Nat), .slice (some ⟨w2.heap.size, 0, none⟩) N N]) (by simp [results, Try.results36, x1, x2, go_sem]) rfl ?_
      exact merged_post (by omega) (by have := HN.out; have := hl1.out; have := hl2.out; omega) (by have := k2.size; omega) ⟨by omega, by have := hk1.size; have := hk2.size; simp at *; omega⟩ hb5 k5 hN3
    · obtain ⟨N, hN⟩ : ∃ N, N = (a1 + n1) - a2 := ⟨_, rfl⟩
      have hN1 : a1 - a2 + n1 ≤ N := by omega
      have hN2 : a2 - a2 + n2 ≤ N := by omega
      have hN3 : N ≤ 1073741824 := by omega
      have HN := Lib.hid hN
      clear hN
      have HK1 := Lib.hid (show ∀ w1, Kp [] w w1 → Byt w1 (.slice p1 n1 c1) l1 from fun w1 k => hb1.kp k (by simp))
      have HK2 := Lib.hid (show ∀ w1, Kp [] w w1 → Byt w1 (.slice p2 n2 c2) l2 from fun w1 k => hb2.kp k (by simp))
      have hl1 := Lib.hid hb1.len.1
      have hl2 := Lib.hid hb2.len.1
      go_enter Try.func36, Try.ntmps36
      go_wp2
      refine wp_region_mix [([0, 2, 5, 7, 1, 3, 4], [6], [0, 1, 2, 3, 4, 7]), ([], [8], [0, 1, 2, 3, 4]), ([9, 10, 11], [], [])] (by kernel_rfl) (by kernel_rfl) ?_
      refine mix_cons (by repeat (first | exact pick_end | apply (pick_step rfl))) (by repeat (first | exact pick_end | apply (pick_step rfl))) (by repeat (first | exact pick_end | apply (pick_step rfl))) ?_
      repeat (go_big_quiet_step (fail))
      refine wpQuiet_nil ?_
      intro nq
      go_wp2_with (go_at_call 35; refine (end_any a1 p1 n1 c1 _ (by omega) (by omega) (by omega)).mono ?_; rintro e w1 ⟨rfl, hk1⟩)
      have B1 := ((Blk.new w [.int .i64 a1, .slice p1 n1 c1] 70).alloc (.cells #[.int .i64 a2, .slice p2 n2 c2] 70)).alloc (.cells #[.int .i64 0, .slice none 0 0] 70)
      have B2 := (Blk.new (w.alloc (.cells #[.int .i64 a1, .slice p1 n1 c1] 70)) [.int .i64 a2, .slice p2 n2 c2] 70).alloc (.cells #[.int .i64 0, .slice none 0 0] 70)
      have B3 := Blk.new ((w.alloc (.cells #[.int .i64 a1, .slice p1 n1 c1] 70)).alloc (.cells #[.int .i64 a2, .slice p2 n2 c2] 70)) [.int .i64 0, .slice none 0 0] 70
      simp only [World.size_alloc] at B2 B3
      have D1 := hk1.blk (B1.drewN _) (by simp)
      have D2 := hk1.blk (B2.drewN _) (by simp)
      have D3 := hk1.blk (B3.drewN _) (by simp)
      clear B1 B2 B3
      have x1 := D1.cell (off := 0) rfl
      have x2 := D1.cell (off := 1) rfl
      have x3 := D2.cell (off := 0) rfl
      have x4 := D2.cell (off := 1) rfl
      go_wp2_with fail
      try simp only [Act.put, List.setIfInBounds_toArray, List.set_cons_zero, List.set_cons_succ]
      refine ⟨?_, ?_⟩
      · unfold AgainAll; repeat (go_big_quiet_step (fail))
        exact again_end
      refine mix_cons (by repeat (first | exact pick_end | apply (pick_step rfl))) (by repeat (first | exact pick_end | apply (pick_step rfl))) (by repeat (first | exact pick_end | apply (pick_step rfl))) ?_
      refine wpQuiet_nil ?_
      intro nq
      go_wp2_with (go_at_call 35; refine (end_any a2 p2 n2 c2 _ (by omega) (by omega) (by omega)).mono ?_; rintro e w2 ⟨rfl, hk2⟩)
      have E1 := hk2.blk (D1.drewN _) (by simp)
      have E2 := hk2.blk (D2.drewN _) (by simp)
      have E3 := hk2.blk (D3.drewN _) (by simp)
      clear x1 x2 x3 x4
      have x1 := E1.cell (off := 0) rfl
      have x2 := E1.cell (off := 1) rfl
      have x3 := E2.cell (off := 0) rfl
      have x4 := E2.cell (off := 1) rfl
      go_wp2_with fail
      try simp only [Act.put, List.setIfInBounds_toArray, List.set_cons_zero, List.set_cons_succ]
      refine ⟨?_, ?_⟩
      · unfold AgainAll; repeat (go_big_quiet_step (fail))
        exact again_end
      refine mix_cons' (by repeat (first | exact pick_end | apply (pick_step rfl))) (by repeat (first | exact pick_end | apply (pick_step rfl))) ?_
      repeat (go_big_quiet_step (fail))
      refine wpQuiet_nil ?_
      intro nq
      go_wp2_with fail
      refine mix_nil ?_
      have hz1 := hk1.size
      have hz2 := hk2.size
      simp only [World.size_alloc, World.heap_drewN] at hz1 hz2
      go_wp2_with (at_make; go_must (refine wpList_make_bytes rfl (.tmp 20) (.tmp 20) 32 rfl 5 Try.underlying32 infoU8 _ _ N rfl rfl ?_ ?_ ?_ ?_; (have := HN.out; omega); (have := HN.out; omega); omega; intro w3 hb3 hk3 hz3))
      have F1 := hk3.blk (E1.drewN _) (by simp)
      have F2 := hk3.blk (E2.drewN _) (by simp)
      have F3 := hk3.blk (E3.drewN _) (by simp)
      have x1 := F1.cell (off := 0) rfl
      have x2 := F1.cell (off := 1) rfl
      go_wp2_with fail
      refine wp_region_mix [([0, 1, 3, 6, 2, 7, 4, 5], [8], [])] (by kernel_rfl) (by kernel_rfl) ?_
      refine mix_cons' (by repeat (first | exact pick_end | apply (pick_step rfl))) (by repeat (first | exact pick_end | apply (pick_step rfl))) ?_
      repeat (go_big_quiet_step (fail))
      refine wpQuiet_nil ?_
      intro nq
      have k2 : Kp [] w w2 := (((show Kp [] w _ from (by repeat (first | exact Kp.refl _ _ | apply Kp.drewN | apply Kp.alloc))).trans hk1).drewN _).trans hk2
      have k3 : Kp [] w w3 := (k2.drewN _).trans hk3
      refine wpList_copy_mem rfl (.tmp 27) (.tmp 29) 32 32 rfl 5 Try.underlying32 (by kernel_rfl) _ _ _ _ _ _ rfl rfl w2.heap.size (a1 - a2) (List.replicate N (0 : UInt8)) 5 (by exact hb3) l1 n1 hl1.out.symm (by omega) ?_ (by simp; omega) ?_
      · intro _
        obtain ⟨b, o, rfl, hc⟩ := (HK1.out _ (k3.drewN _)).ptr (k := 0) (by have := hl1.out; omega)
        exact ⟨by simp, b, o, rfl, fun j hj => hc j (by have := hl1.out; omega)⟩
      intro w4 hb4 hk4
      have G2 := hk4.blk (F2.drewN _) (by simp; omega)
      have G3 := hk4.blk (F3.drewN _) (by simp; omega)
      clear x1 x2
      have x1 := G2.cell (off := 0) rfl
      have x2 := G2.cell (off := 1) rfl
      go_wp2_with fail
      refine mix_nil ?_
      try simp only [Act.put, List.setIfInBounds_toArray, List.set_cons_zero, List.set_cons_succ]
      go_wp2_with fail
      refine wp_region_mix [([0, 1, 3, 6, 2, 7, 4, 5], [8], [])] (by kernel_rfl) (by kernel_rfl) ?_
      refine mix_cons' (by repeat (first | exact pick_end | apply (pick_step rfl))) (by repeat (first | exact pick_end | apply (pick_step rfl))) ?_
      repeat (go_big_quiet_step (fail))
      refine wpQuiet_nil ?_
      intro nq
      have k4 : Kp [] w w4 := (k3.drewN _).trans' hk4 (by simp) (fun i hi => .inr (by simp at hi; have := k2.size; omega))
      refine wpList_copy_mem rfl (.tmp 36) (.tmp 38) 32 32 rfl 5 Try.underlying32 (by kernel_rfl) _ _ _ _ _ _ rfl rfl w2.heap.size (a2 - a2) _ 5 (by exact hb4) l2 n2 hl2.out.symm (by omega) ?_ (by rw [length_splice' (by have := hl1.out; simp; omega)]; simp; omega) ?_
      · intro _
        obtain ⟨b, o, rfl, hc⟩ := (HK2.out _ (k4.drewN _)).ptr (k := 0) (by have := hl2.out; omega)
        exact ⟨by simp, b, o, rfl, fun j hj => hc j (by have := hl2.out; omega)⟩
      intro w5 hb5 hk5
      have H3 := hk5.blk (G3.drewN _) (by simp; omega)
      have k5 : Kp [] w w5 := (k4.drewN _).trans' hk5 (by simp) (fun i hi => .inr (by simp at hi; have := k2.size; omega))
      clear x1 x2
      have x1 := H3.cell (off := 0) rfl
      have x2 := H3.cell (off := 1) rfl
      have f1 := H3.frozen 0
      have f2 := H3.frozen 1
      go_wp2_with fail
      refine mix_nil ?_
      try simp only [Act.put, List.setIfInBounds_toArray, List.set_cons_zero, List.set_cons_succ]
      go_wp2_with fail
      refine bodyPost_ret (v := .agg #[.int .i64 (a2 : Nat), .slice (some ⟨w2.heap.size, 0, none⟩) N N]) (by simp [results, Try.results36, x1, x2, go_sem]) rfl ?_
      exact merged_post (by omega) (by have := HN.out; have := hl1.out; have := hl2.out; omega) (by have := k2.size; omega) ⟨by omega, by have := hk1.size; have := hk2.size; simp at *; omega⟩ hb5 k5 hN3
  · rcases Nat.lt_or_ge (a1 + n1) (a2 + n2) with hE | hE
    · obtain ⟨N, hN⟩ : ∃ N, N = (a2 + n2) - a1 := ⟨_, rfl⟩
      have hN1 : a1 - a1 + n1 ≤ N := by omega
      have hN2 : a2 - a1 + n2 ≤ N := by omega
      have hN3 : N ≤ 1073741824 := by omega
      have HN := Lib.hid hN
      clear hN
      have HK1 := Lib.hid (show ∀ w1, Kp [] w w1 → Byt w1 (.slice p1 n1 c1) l1 from fun w1 k => hb1.kp k (by simp))
      have HK2 := Lib.hid (show ∀ w1, Kp [] w w1 → Byt w1 (.slice p2 n2 c2) l2 from fun w1 k => hb2.kp k (by simp))
      have hl1 := Lib.hid hb1.len.1
      have hl2 := Lib.hid hb2.len.1
      go_enter Try.func36, Try.ntmps36
      go_wp2
      refine wp_region_mix [([0, 2, 5, 7, 1, 3, 4], [6], [0, 1, 2, 3, 4, 7]), ([], [8], [0, 1, 2, 3, 4]), ([9, 10, 11], [], [])] (by kernel_rfl) (by kernel_rfl) ?_
      refine mix_cons (by repeat (first | exact pick_end | apply (pick_step rfl))) (by repeat (first | exact pick_end | apply (pick_step rfl))) (by repeat (first | exact pick_end | apply (pick_step rfl))) ?_
      repeat (go_big_quiet_step (fail))
      refine wpQuiet_nil ?_
      intro nq
      go_wp2_with (go_at_call 35; refine (end_any a1 p1 n1 c1 _ (by omega) (by omega) (by omega)).mono ?_; rintro e w1 ⟨rfl, hk1⟩)
      have B1 := ((Blk.new w [.int .i64 a1, .slice p1 n1 c1] 70).alloc (.cells #[.int .i64 a2, .slice p2 n2 c2] 70)).alloc (.cells #[.int .i64 0, .slice none 0 0] 70)
      have B2 := (Blk.new (w.alloc (.cells #[.int .i64 a1, .slice p1 n1 c1] 70)) [.int .i64 a2, .slice p2 n2 c2] 70).alloc (.cells #[.int .i64 0, .slice none 0 0] 70)
      have B3 := Blk.new ((w.alloc (.cells #[.int .i64 a1, .slice p1 n1 c1] 70)).alloc (.cells #[.int .i64 a2, .slice p2 n2 c2] 70)) [.int .i64 0, .slice none 0 0] 70
      simp only [World.size_alloc] at B2 B3
      have D1 := hk1.blk (B1.drewN _) (by simp)
      have D2 := hk1.blk (B2.drewN _) (by simp)
      have D3 := hk1.blk (B3.drewN _) (by simp)
      clear B1 B2 B3
      have x1 := D1.cell (off := 0) rfl
      have x2 := D1.cell (off := 1) rfl
      have x3 := D2.cell (off := 0) rfl
      have x4 := D2.cell (off := 1) rfl
      go_wp2_with fail
      try simp only [Act.put, List.setIfInBounds_toArray, List.set_cons_zero, List.set_cons_succ]
      refine ⟨?_, ?_⟩
      · unfold AgainAll; repeat (go_big_quiet_step (fail))
        exact again_end
      refine mix_cons (by repeat (first | exact pick_end | apply (pick_step rfl))) (by repeat (first | exact pick_end | apply (pick_step rfl))) (by repeat (first | exact pick_end | apply (pick_step rfl))) ?_
      refine wpQuiet_nil ?_
      intro nq
      go_wp2_with (go_at_call 35; refine (end_any a2 p2 n2 c2 _ (by omega) (by omega) (by omega)).mono ?_; rintro e w2 ⟨rfl, hk2⟩)
      have E1 := hk2.blk (D1.drewN _) (by simp)
      have E2 := hk2.blk (D2.drewN _) (by simp)
      have E3 := hk2.blk (D3.drewN _) (by simp)
      clear x1 x2 x3 x4
      have x1 := E1.cell (off := 0) rfl
      have x2 := E1.cell (off := 1) rfl
      have x3 := E2.cell (off := 0) rfl
      have x4 := E2.cell (off := 1) rfl
      go_wp2_with fail
      try simp only [Act.put, List.setIfInBounds_toArray, List.set_cons_zero, List.set_cons_succ]
      refine ⟨?_, ?_⟩
      · unfold AgainAll; repeat (go_big_quiet_step (fail))
        exact again_end
      refine mix_cons' (by repeat (first | exact pick_end | apply (pick_step rfl))) (by repeat (first | exact pick_end | apply (pick_step rfl))) ?_
      repeat (go_big_quiet_step (fail))
      refine wpQuiet_nil ?_
      intro nq
      go_wp2_with fail
      refine mix_nil ?_
      have hz1 := hk1.size
      have hz2 := hk2.size
      simp only [World.size_alloc, World.heap_drewN] at hz1 hz2
      go_wp2_with (at_make; go_must (refine wpList_make_bytes rfl (.tmp 20) (.tmp 20) 32 rfl 5 Try.underlying32 infoU8 _ _ N rfl rfl ?_ ?_ ?_ ?_; (have := HN.out; omega); (have := HN.out; omega); omega; intro w3 hb3 hk3 hz3))
      have F1 := hk3.blk (E1.drewN _) (by simp)
      have F2 := hk3.blk (E2.drewN _) (by simp)
      have F3 := hk3.blk (E3.drewN _) (by simp)
      have x1 := F1.cell (off := 0) rfl
      have x2 := F1.cell (off := 1) rfl
      go_wp2_with fail
      refine wp_region_mix [([0, 1, 3, 6, 2, 7, 4, 5], [8], [])] (by kernel_rfl) (by kernel_rfl) ?_
      refine mix_cons' (by repeat (first | exact pick_end | apply (pick_step rfl))) (by repeat (first | exact pick_end | apply (pick_step rfl))) ?_
      repeat (go_big_quiet_step (fail))
      refine wpQuiet_nil ?_
      intro nq
      have k2 : Kp [] w w2 := (((show Kp [] w _ from (by repeat (first | exact Kp.refl _ _ | apply Kp.drewN | apply Kp.alloc))).trans hk1).drewN _).trans hk2
      have k3 : Kp [] w w3 := (k2.drewN _).trans hk3
      refine wpList_copy_mem rfl (.tmp 27) (.tmp 29) 32 32 rfl 5 Try.underlying32 (by kernel_rfl) _ _ _ _ _ _ rfl rfl w2.heap.size (a1 - a1) (List.replicate N (0 : UInt8)) 5 (by exact hb3) l1 n1 hl1.out.symm (by omega) ?_ (by simp; omega) ?_
      · intro _
        obtain ⟨b, o, rfl, hc⟩ := (HK1.out _ (k3.drewN _)).ptr (k := 0) (by have := hl1.out; omega)
        exact ⟨by simp, b, o, rfl, fun j hj => hc j (by have := hl1.out; omega)⟩
      intro w4 hb4 hk4
      have G2 := hk4.blk (F2.drewN _) (by simp; omega)
      have G3 := hk4.blk (F3.drewN _) (by simp; omega)
      clear x1 x2
      have x1 := G2.cell (off := 0) rfl
      have x2 := G2.cell (off := 1) rfl
      go_wp2_with fail
      refine mix_nil ?_
      try simp only [Act.put, List.setIfInBounds_toArray, List.set_cons_zero, List.set_cons_succ]
      go_wp2_with fail
      refine wp_region_mix [([0, 1, 3, 6, 2, 7, 4, 5], [8], [])] (by kernel_rfl) (by kernel_rfl) ?_
      refine mix_cons' (by repeat (first | exact pick_end | apply (pick_step rfl))) (by repeat (first | exact pick_end | apply (pick_step rfl))) ?_
      repeat (go_big_quiet_step (fail))
      refine wpQuiet_nil ?_
      intro nq
      have k4 : Kp [] w w4 := (k3.drewN _).trans' hk4 (by simp) (fun i hi => .inr (by simp at hi; have := k2.size; omega))
      refine wpList_copy_mem rfl (.tmp 36) (.tmp 38) 32 32 rfl 5 Try.underlying32 (by kernel_rfl) _ _ _ _ _ _ rfl rfl w2.heap.size (a2 - a1) _ 5 (by exact hb4) l2 n2 hl2.out.symm (by omega) ?_ (by rw [length_splice' (by have := hl1.out; simp; omega)]; simp; omega) ?_
      · intro _
        obtain ⟨b, o, rfl, hc⟩ := (HK2.out _ (k4.drewN _)).ptr (k := 0) (by have := hl2.out; omega)
        exact ⟨by simp, b, o, rfl, fun j hj => hc j (by have := hl2.out; omega)⟩
      intro w5 hb5 hk5
      have H3 := hk5.blk (G3.drewN _) (by simp; omega)
      have k5 : Kp [] w w5 := (k4.drewN _).trans' hk5 (by simp) (fun i hi => .inr (by simp at hi; have := k2.size; omega))
      clear x1 x2
      have x1 := H3.cell (off := 0) rfl
      have x2 := H3.cell (off := 1) rfl
      have f1 := H3.frozen 0
      have f2 := H3.frozen 1
      go_wp2_with fail
      refine mix_nil ?_
      try simp only [Act.put, List.setIfInBounds_toArray, List.set_cons_zero, List.set_cons_succ]
      go_wp2_with fail
      refine bodyPost_ret (v := .agg #[.int .i64 (a1 : Nat), .slice (some ⟨w2.heap.size, 0, none⟩) N N]) (by simp [results, Try.results36, x1, x2, go_sem]) rfl ?_
      exact merged_post (by omega) (by have := HN.out; have := hl1.out; have := hl2.out; omega) (by have := k2.size; omega) ⟨by omega, by have := hk1.size; have := hk2.size; simp at *; omega⟩ hb5 k5 hN3
    · obtain ⟨N, hN⟩ : ∃ N, N = (a1 + n1) - a1 := ⟨_, rfl⟩
      have hN1 : a1 - a1 + n1 ≤ N := by omega
      have hN2 : a2 - a1 + n2 ≤ N := by omega
      have hN3 : N ≤ 1073741824 := by omega
      have HN := Lib.hid hN
      clear hN
      have HK1 := Lib.hid (show ∀ w1, Kp [] w w1 → Byt w1 (.slice p1 n1 c1) l1 from fun w1 k => hb1.kp k (by simp))
      have HK2 := Lib.hid (show ∀ w1, Kp [] w w1 → Byt w1 (.slice p2 n2 c2) l2 from fun w1 k => hb2.kp k (by simp))
      have hl1 := Lib.hid hb1.len.1
      have hl2 := Lib.hid hb2.len.1
      go_enter Try.func36, Try.ntmps36
      go_wp2
      refine wp_region_mix [([0, 2, 5, 7, 1, 3, 4], [6], [0, 1, 2, 3, 4, 7]), ([], [8], [0, 1, 2, 3, 4]), ([9, 10, 11], [], [])] (by kernel_rfl) (by kernel_rfl) ?_
      refine mix_cons (by repeat (first | exact pick_end | apply (pick_step rfl))) (by repeat (first | exact pick_end | apply (pick_step rfl))) (by repeat (first | exact pick_end | apply (pick_step rfl))) ?_
      repeat (go_big_quiet_step (fail))
      refine wpQuiet_nil ?_
      intro nq
      go_wp2_with (go_at_call 35; refine (end_any a1 p1 n1 c1 _ (by omega) (by omega) (by omega)).mono ?_; rintro e w1 ⟨rfl, hk1⟩)
      have B1 := ((Blk.new w [.int .i64 a1, .slice p1 n1 c1] 70).alloc (.cells #[.int .i64 a2, .slice p2 n2 c2] 70)).alloc (.cells #[.int .i64 0, .slice none 0 0] 70)
      have B2 := (Blk.new (w.alloc (.cells #[.int .i64 a1, .slice p1 n1 c1] 70)) [.int .i64 a2, .slice p2 n2 c2] 70).alloc (.cells #[.int .i64 0, .slice none 0 0] 70)
      have B3 := Blk.new ((w.alloc (.cells #[.int .i64 a1, .slice p1 n1 c1] 70)).alloc (.cells #[.int .i64 a2, .slice p2 n2 c2] 70)) [.int .i64 0, .slice none 0 0] 70
      simp only [World.size_alloc] at B2 B3
      have D1 := hk1.blk (B1.drewN _) (by simp)
      have D2 := hk1.blk (B2.drewN _) (by simp)
      have D3 := hk1.blk (B3.drewN _) (by simp)
      clear B1 B2 B3
      have x1 := D1.cell (off := 0) rfl
      have x2 := D1.cell (off := 1) rfl
      have x3 := D2.cell (off := 0) rfl
      have x4 := D2.cell (off := 1) rfl
      go_wp2_with fail
      try simp only [Act.put, List.setIfInBounds_toArray, List.set_cons_zero, List.set_cons_succ]
      refine ⟨?_, ?_⟩
      · unfold AgainAll; repeat (go_big_quiet_step (fail))
        exact again_end
      refine mix_cons (by repeat (first | exact pick_end | apply (pick_step rfl))) (by repeat (first | exact pick_end | apply (pick_step rfl))) (by repeat (first | exact pick_end | apply (pick_step rfl))) ?_
      refine wpQuiet_nil ?_
      intro nq
      go_wp2_with (go_at_call 35; refine (end_any a2 p2 n2 c2 _ (by omega) (by omega) (by omega)).mono ?_; rintro e w2 ⟨rfl, hk2⟩)
      have E1 := hk2.blk (D1.drewN _) (by simp)
      have E2 := hk2.blk (D2.drewN _) (by simp)
      have E3 := hk2.blk (D3.drewN _) (by simp)
      clear x1 x2 x3 x4
      have x1 := E1.cell (off := 0) rfl
      have x2 := E1.cell (off := 1) rfl
      have x3 := E2.cell (off := 0) rfl
      have x4 := E2.cell (off := 1) rfl
      go_wp2_with fail
      try simp only [Act.put, List.setIfInBounds_toArray, List.set_cons_zero, List.set_cons_succ]
      refine ⟨?_, ?_⟩
      · unfold AgainAll; repeat (go_big_quiet_step (fail))
        exact again_end
      refine mix_cons' (by repeat (first | exact pick_end | apply (pick_step rfl))) (by repeat (first | exact pick_end | apply (pick_step rfl))) ?_
      repeat (go_big_quiet_step (fail))
      refine wpQuiet_nil ?_
      intro nq
      go_wp2_with fail
      refine mix_nil ?_
      have hz1 := hk1.size
      have hz2 := hk2.size
      simp only [World.size_alloc, World.heap_drewN] at hz1 hz2
      go_wp2_with (at_make; go_must (refine wpList_make_bytes rfl (.tmp 20) (.tmp 20) 32 rfl 5 Try.underlying32 infoU8 _ _ N rfl rfl ?_ ?_ ?_ ?_; (have := HN.out; omega); (have := HN.out; omega); omega; intro w3 hb3 hk3 hz3))
      have F1 := hk3.blk (E1.drewN _) (by simp)
      have F2 := hk3.blk (E2.drewN _) (by simp)
      have F3 := hk3.blk (E3.drewN _) (by simp)
      have x1 := F1.cell (off := 0) rfl
      have x2 := F1.cell (off := 1) rfl
      go_wp2_with fail
      refine wp_region_mix [([0, 1, 3, 6, 2, 7, 4, 5], [8], [])] (by kernel_rfl) (by kernel_rfl) ?_
      refine mix_cons' (by repeat (first | exact pick_end | apply (pick_step rfl))) (by repeat (first | exact pick_end | apply (pick_step rfl))) ?_
      repeat (go_big_quiet_step (fail))
      refine wpQuiet_nil ?_
      intro nq
      have k2 : Kp [] w w2 := (((show Kp [] w _ from (by repeat (first | exact Kp.refl _ _ | apply Kp.drewN | apply Kp.alloc))).trans hk1).drewN _).trans hk2
      have k3 : Kp [] w w3 := (k2.drewN _).trans hk3
      refine wpList_copy_mem rfl (.tmp 27) (.tmp 29) 32 32 rfl 5 Try.underlying32 (by kernel_rfl) _ _ _ _ _ _ rfl rfl w2.heap.size (a1 - a1) (List.replicate N (0 : UInt8)) 5 (by exact hb3) l1 n1 hl1.out.symm (by omega) ?_ (by simp; omega) ?_
      · intro _
        obtain ⟨b, o, rfl, hc⟩ := (HK1.out _ (k3.drewN _)).ptr (k := 0) (by have := hl1.out; omega)
        exact ⟨by simp, b, o, rfl, fun j hj => hc j (by have := hl1.out; omega)⟩
      intro w4 hb4 hk4
      have G2 := hk4.blk (F2.drewN _) (by simp; omega)
      have G3 := hk4.blk (F3.drewN _) (by simp; omega)
      clear x1 x2
      have x1 := G2.cell (off := 0) rfl
      have x2 := G2.cell (off := 1) rfl
      go_wp2_with fail
      refine mix_nil ?_
      try simp only [Act.put, List.setIfInBounds_toArray, List.set_cons_zero, List.set_cons_succ]
      go_wp2_with fail
      refine wp_region_mix [([0, 1, 3, 6, 2, 7, 4, 5], [8], [])] (by kernel_rfl) (by kernel_rfl) ?_
      refine mix_cons' (by repeat (first | exact pick_end | apply (pick_step rfl))) (by repeat (first | exact pick_end | apply (pick_step rfl))) ?_
      repeat (go_big_quiet_step (fail))
      refine wpQuiet_nil ?_
      intro nq
      have k4 : Kp [] w w4 := (k3.drewN _).trans' hk4 (by simp) (fun i hi => .inr (by simp at hi; have := k2.size; omega))
      refine wpList_copy_mem rfl (.tmp 36) (.tmp 38) 32 32 rfl 5 Try.underlying32 (by kernel_rfl) _ _ _ _ _ _ rfl rfl w2.heap.size (a2 - a1) _ 5 (by exact hb4) l2 n2 hl2.out.symm (by omega) ?_ (by rw [length_splice' (by have := hl1.out; simp; omega)]; simp; omega) ?_
      · intro _
        obtain ⟨b, o, rfl, hc⟩ := (HK2.out _ (k4.drewN _)).ptr (k := 0) (by have := hl2.out; omega)
        exact ⟨by simp, b, o, rfl, fun j hj => hc j (by have := hl2.out; omega)⟩
      intro w5 hb5 hk5
      have H3 := hk5.blk (G3.drewN _) (by simp; omega)
      have k5 : Kp [] w w5 := (k4.drewN _).trans' hk5 (by simp) (fun i hi => .inr (by simp at hi; have := k2.size; omega))
      clear x1 x2
      have x1 := H3.cell (off := 0) rfl
      have x2 := H3.cell (off := 1) rfl
      have f1 := H3.frozen 0
      have f2 := H3.frozen 1
      go_wp2_with fail
      refine mix_nil ?_
      try simp only [Act.put, List.setIfInBounds_toArray, List.set_cons_zero, List.set_cons_succ]
      go_wp2_with fail
      refine bodyPost_ret (v := .agg #[.int .i64 (a1 : Nat), .slice (some ⟨w2.heap.size, 0, none⟩) N N]) (by simp [results, Try.results36, x1, x2, go_sem]) rfl ?_
      exact merged_post (by omega) (by have := HN.out; have := hl1.out; have := hl2.out; omega) (by have := k2.size; omega) ⟨by omega, by have := hk1.size; have := hk2.size; simp at *; omega⟩ hb5 k5 hN3

end Go.Proofs.Ytodedpmedkgkmaa

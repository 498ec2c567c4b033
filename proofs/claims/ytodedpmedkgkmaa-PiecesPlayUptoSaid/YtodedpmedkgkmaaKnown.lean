/-
  wharflaw13.known: it says true.
-/
import Derived.Test.YtodedpmedkgkmaaPutA
import Derived.Test.YtodedpmedkgkmaaRing
import Derived.Lib.SlBytesConst
set_option linter.unusedVariables false
set_option linter.unusedSimpArgs false
namespace Go.Proofs.Ytodedpmedkgkmaa
open Go.RowKit

/-- a literal's bytes, marked behind its end -/
theorem byt_lit (w : World) (cs : Array Value) (l : List UInt8) (t : TypeId) (fz : Nat × Nat) (g n : Nat) (hg : w.heap.size = g) (hc : cs.toList = l.map bv) (hn : n = l.length) (h : l.length ≤ maxLen) :
    Byt (w.alloc (.cells cs t fz)) (.slice (some ⟨g, 0, none⟩) n n) l := by
  subst hg; subst hn
  refine .inr ⟨_, 0, _, rfl, Nat.le_refl _, h, fun i hi => ?_⟩
  rw [Nat.zero_add]
  have e : cs = (l.map bv).toArray := by rw [← hc]
  subst e
  have h2 : (w.alloc (.cells (l.map bv).toArray t fz)).heap[w.heap.size]? = some (.cells (l.map bv).toArray t fz) := heap_alloc_new w _
  have := getElem_of_bv hi
  simp only [World.cell?, h2]
  simpa using this

theorem kconv (w : World) (C : Array Value) (k c n : Nat) (hn : w.heap.size = n) :
    (convert 32 32 (.slice (some ⟨n, 0, none⟩) k c)).run Try.prog (w.alloc (.cells C 5)) = .ok (.slice (some ⟨n, 0, none⟩) k c) (w.alloc (.cells C 5 (C.size, C.size + 1))) := by
  subst hn
  exact Lib.run_convert_bytes_const (P := Try.prog) w 32 5 C k c Try.underlying32 Try.underlying5

theorem RingAt.kp' {w w' : World} {b rb room : Nat} {q : List UInt8} {L : List Nat} (h : RingAt w b rb room q) (k : Kp L w w') (h1 : b ∉ L) (h2 : rb ∉ L) : RingAt w' b rb room q := h.kp k h1 h2

theorem kwrite {w : World} {b rb : Nat} (h : RingAt w b rb 4 []) (v : Value) (hb : Byt w v [97, 98, 99, 100, 101]) (hne : v.ownBlock ≠ some rb) :
    Calls Try.prog 13 #[.pointer (some ⟨b, 0, none⟩), v] w fun e w' => e = .returned (.int .i64 4) ∧ RingAt w' b rb 4 [97, 98, 99, 100] ∧ Kp [b, rb] w w' := by
  obtain ⟨row, at_, h⟩ := h
  exact write_any h v _ hb (.inr hne)
theorem kdrop {w : World} {b rb : Nat} (h : RingAt w b rb 4 [97, 98, 99, 100]) :
    Calls Try.prog 20 #[.pointer (some ⟨b, 0, none⟩), .int .i64 2] w fun e w' => e = .returned (.int .i64 2) ∧ RingAt w' b rb 4 [99, 100] ∧ Kp [b] w w' := by
  obtain ⟨row, at_, h⟩ := h
  exact drop_any h 2
theorem kpeek {w : World} {b rb : Nat} (h : RingAt w b rb 4 [99, 100]) :
    Calls Try.prog 17 #[.pointer (some ⟨b, 0, none⟩), .int .i64 0, .int .i64 9] w fun e w' => ∃ v, e = .returned v ∧ Byt w' v [99, 100] ∧ Kp [] w w' := by
  obtain ⟨row, at_, h⟩ := h
  refine (peek_any h 0 9).mono ?_
  rintro e w' ⟨v, rfl, hown, hk⟩
  exact ⟨v, rfl, OwnB.byt (l := [99, 100]) hown, hk⟩
theorem ksame {w : World} (l : List UInt8) (v1 v2 : Value) (h1 : Byt w v1 l) (h2 : Byt w v2 l) :
    Calls Try.prog 18 #[v1, v2] w fun e w' => e = .returned (.bool true) ∧ ∃ n, w' = w.drewN n := by
  have := l13_same v1 v2 l l w h1 h2
  rwa [show sameTo l l = true by simp [sameTo]] at this

/-- Put, and the pieces behind it -/
theorem put_next {w : World} {b off : Nat} {T : TypeId} {cur : List Value} {p : Option Addr} {rs : List Rn} (h : PcAt w b off T cur p rs) (hT : T ≠ 5) (ahead : Int) (v : Value) (bs : List UInt8) (hb : Byt w v bs) (l : List Bn) (hl : rs.map Rn.bn = l) (o : List UInt8 × List Bn) (ho : putTo l ahead bs = o) :
    Calls Try.prog 26 #[.pointer (some ⟨b, off, none⟩), .int .i64 ahead, v] w fun e w' => ∃ v sv p' rs', e = .returned v ∧ PcAt w' b off T (cur.set off sv) p' rs' ∧ rs'.map Rn.bn = o.2 ∧ OwnB w' 0 5 v o.1 ∧ Kp (b :: obp p) w w' ∧ (∀ i, i ∈ obp p' → i ∈ obp p ∨ (w.heap.size ≤ i ∧ i < w'.heap.size)) ∧ (∀ i, i ∈ ob v → i ∉ obs rs') ∧ (∀ i, i ∈ ob v ∨ i ∈ obs rs' → i ∈ obs rs ∨ w.heap.size ≤ i) ∧ b ∉ ob v := by
  subst hl
  subst ho
  refine (put_any h hT ahead v bs hb).mono ?_
  rintro e w' ⟨v, sv, p', rs', rfl, hm, hown, hbn, hk, h1, h2, h3, h4⟩
  exact ⟨v, sv, p', rs', rfl, ⟨hm, by rw [hbn]; exact putTo_runs h.runs ahead bs⟩, hbn, hown, hk, h3, h1, h2, h4⟩

theorem pc_new (w : World) : PcAt (w.alloc (.cells #[.slice none 0 0] 51)) w.heap.size 0 51 [.slice none 0 0] none [] :=
  ⟨⟨Blk.new w _ _, ⟨0, by simp, rfl⟩, .inl rfl, by simp, by simp [obs], by simp [obs]⟩, ⟨⟨by simp, by simp⟩, by simp, by simp⟩⟩

theorem PcAt.kp {w w' : World} {b off : Nat} {T : TypeId} {cur : List Value} {p : Option Addr} {rs : List Rn} {L : List Nat} (h : PcAt w b off T cur p rs) (k : Kp L w w') (h1 : b ∉ L) (h2 : ∀ i, i ∈ obp p → i ∉ L) (h3 : ∀ i, i ∈ obs rs → i ∉ L) : PcAt w' b off T cur p rs :=
  ⟨h.toPcMem.kp k h1 h2 h3, h.runs⟩

set_option maxHeartbeats 1600000 in
theorem known_any (w : World) : Calls Try.prog 9 #[] w fun e w' => e = .returned (.bool true) ∧ Kp [] w w' := by
  have kc := kconv
  go_enter Try.func9, Try.ntmps9
  go_wp2_with (go_at_call 10; refine (new_any 4 w).mono ?_; rintro e w1 ⟨hk1, ⟨hz, _⟩ | ⟨_, rfl, hr1, hz1⟩⟩; exact absurd (by decide) hz)
  have hP1 := pc_new w1
  rw [hz1] at hP1
  refine (kwrite (hr1.kp (L := []) (by repeat (first | exact Kp.refl _ _ | apply Kp.drewN | apply Kp.alloc)) (by simp) (by simp)) _ (byt_lit _ _ _ _ _ _ _ (by simp [hz1]) rfl rfl (by simp [maxLen])) (by simp [Value.ownBlock]; omega)).mono ?_
  rintro e w2 ⟨rfl, hr2, hk2⟩
  go_wp2_with fail
  refine (kdrop hr2).mono ?_
  rintro e w3 ⟨rfl, hr3, hk3⟩
  go_wp2_with fail
  refine (kpeek hr3).mono ?_
  rintro e w4 ⟨v4, rfl, hb4, hk4⟩
  go_wp2_with fail
  refine (ksame [99, 100] _ _ (hb4.kp (L := []) (by repeat (first | exact Kp.refl _ _ | apply Kp.drewN | apply Kp.alloc)) (by simp)) (byt_lit _ _ _ _ _ _ _ (by simp) rfl rfl (by simp [maxLen]))).mono ?_
  rintro e w5 ⟨rfl, n5, rfl⟩
  have hP4 := (((hP1.kp (L := []) ((Kp.refl _ _).alloc _) (by simp) (by simp) (by simp)).kp hk2 (by simp) (by simp [obp]) (by simp [obs])).kp hk3 (by simp) (by simp [obp]) (by simp [obs])).kp hk4 (by simp) (by simp) (by simp)
  go_wp2_with fail
  refine (put_next (hP4.kp (L := []) (by repeat (first | exact Kp.refl _ _ | apply Kp.drewN | apply Kp.alloc)) (by simp) (by simp) (by simp)) (by decide) 2 _ [99, 100] (byt_lit _ _ _ _ _ _ _ (by simp) rfl rfl (by simp [maxLen])) [] rfl ([], [(2, [99, 100])]) (by decide)).mono ?_
  rintro e w6 ⟨v6, sv6, p6, rs6, rfl, hP6, hbn6, hown6, hk6, h61, h62, h63, h64⟩
  obtain ⟨q6, c6, rfl, _⟩ := hown6.shape
  go_wp2_with fail
  refine (put_next (hP6.kp (L := []) (by repeat (first | exact Kp.refl _ _ | apply Kp.drewN | apply Kp.alloc)) (by simp) (by simp) (by simp)) (by decide) 0 _ [97, 98] (byt_lit _ _ _ _ _ _ _ (by simp) rfl rfl (by simp [maxLen])) [(2, [99, 100])] hbn6 ([97, 98, 99, 100], []) (by decide)).mono ?_
  rintro e w7 ⟨v7, sv7, p7, rs7, rfl, hP7, hbn7, hown7, hk7, h71, h72, h73, h74⟩
  go_wp2_with fail
  refine (ksame [97, 98, 99, 100] _ _ (hown7.byt.kp (L := []) (by repeat (first | exact Kp.refl _ _ | apply Kp.drewN | apply Kp.alloc)) (by simp)) (byt_lit _ _ _ _ _ _ _ (by simp) rfl rfl (by simp [maxLen]))).mono ?_
  rintro e w8 ⟨rfl, n8, rfl⟩
  go_wp2_with fail
  go_ret
  refine ⟨rfl, ?_⟩
  have s1 := hk1.size
  have s2 := hk2.size
  have s3 := hk3.size
  have s4 := hk4.size
  have s6 := hk6.size
  simp only [World.size_alloc, World.heap_drewN] at s2 s3 s4 s6 h61 
  have a2 : Kp [] w w2 := ((hk1.alloc _).alloc _).trans' hk2 (by simp) (by simp)
  have a3 : Kp [] w w3 := a2.trans' hk3 (by simp) (by simp)
  have a4 : Kp [] w w4 := a3.trans hk4
  have a6 : Kp [] w w6 := (((a4.alloc _).alloc _).drewN n5).trans' (by exact hk6) (by simp) (by simp [obp])
  have a7 : Kp [] w w7 := (a6.alloc _).trans' hk7 (by simp) (fun i hi => by
    rcases List.mem_cons.1 hi with rfl | hi
    · exact .inr (by omega)
    · have := h61 i hi
      simp [obp] at this
      exact .inr (by omega))
  exact (a7.alloc _).drewN n8

end Go.Proofs.Ytodedpmedkgkmaa

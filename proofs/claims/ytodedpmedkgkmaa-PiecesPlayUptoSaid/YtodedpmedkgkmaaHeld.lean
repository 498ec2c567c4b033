/-
  ring.Pieces: Held, First.
-/
import Derived.Test.YtodedpmedkgkmaaKnown
set_option linter.unusedVariables false
set_option linter.unusedSimpArgs false
namespace Go.Proofs.Ytodedpmedkgkmaa
open Go.RowKit

/-- how many bytes wait -/
def heldTo : List Bn → Nat
  | [] => 0
  | r :: l => r.2.length + heldTo l

theorem heldTo_append (a b : List Bn) : heldTo (a ++ b) = heldTo a + heldTo b := by
  induction a with
  | nil => simp [heldTo]
  | cons r a ih => simp only [List.cons_append, heldTo, ih]; omega

theorem rises_held {l : List Bn} (h : Rises l) {n : Nat} (ht : ∀ r ∈ l, r.1 + r.2.length ≤ n) : ∀ m, (∀ r ∈ l, m ≤ r.1) → m ≤ n → m + heldTo l ≤ n := by
  induction l with
  | nil => intro m _ hm; simpa [heldTo] using hm
  | cons r l ih =>
    intro m hm hmn
    have hp := h.pos r (by simp)
    have h1 := hm r (by simp)
    have h2 := ht r (by simp)
    have hl := (List.pairwise_cons.1 h.up).1
    have := ih (rises_right (a := [r]) h) (fun x hx => ht x (by simp [hx])) (r.1 + r.2.length) (fun x hx => by have := hl x hx; omega) h2
    simp only [heldTo]; omega

theorem PcAt.held {w : World} {b off : Nat} {T : TypeId} {cur : List Value} {p : Option Addr} {rs : List Rn} (h : PcAt w b off T cur p rs) : heldTo (rs.map Rn.bn) ≤ 1048560 := by
  have := rises_held h.runs.toRises h.runs.top 0 (by simp) (by omega)
  omega

theorem heldTo_take {l : List Bn} (k : Nat) : heldTo (l.take k) ≤ heldTo l := by
  conv => rhs; rw [← List.take_append_drop k l]
  rw [heldTo_append]; omega

set_option maxRecDepth 10000 in
set_option maxHeartbeats 1600000 in
theorem held_any {w : World} {b off : Nat} {T : TypeId} {cur : List Value} {p : Option Addr} {rs : List Rn} (h : PcAt w b off T cur p rs) :
    Calls Try.prog 27 #[.pointer (some ⟨b, off, none⟩)] w fun e w' => e = .returned (.int .i64 (heldTo (rs.map Rn.bn))) ∧ Kp [] w w' := by
  obtain ⟨c, hc, hcell⟩ := h.at_
  have x1 := h.blk.cell hcell
  have hlen := h.length
  have hheld := h.held
  have HR := Lib.hid h.toPcMem.runsAt
  have HO := Lib.hid h.ok
  have HT := Lib.hid (show ∀ k, heldTo ((rs.map Rn.bn).take k) ≤ 1048560 from fun k => Nat.le_trans (heldTo_take k) hheld)
  clear h hcell
  go_enter Try.func27, Try.ntmps27
  go_wp2
  go_loopw [3, 13] (fun s i wr => ∃ k, k ≤ rs.length ∧ i = .int .i64 k ∧ s = .int .i64 (heldTo ((rs.map Rn.bn).take k)) ∧ Kp [] w wr) (fun _ i _ => rs.length - (intOf i).toNat)
  case atStart => exact ⟨0, Nat.zero_le _, rfl, rfl, (by repeat (first | exact Kp.refl _ _ | assumption | apply Kp.drewN | apply Kp.alloc))⟩
  case round =>
    obtain ⟨k, hk, rfl, rfl, hkp⟩ := hrel
    have hm := HT.out k
    have hm2 := HT.out (k + 1)
    by_cases hlt : k < rs.length
    · obtain ⟨y, hy⟩ : ∃ y, rs[k]? = some y := ⟨_, List.getElem?_eq_getElem hlt⟩
      obtain ⟨g, o, rfl, hcells⟩ := HR.out.resolve_left (by rintro rfl; simp at hlt)
      obtain ⟨hc1, hc2⟩ := hcells k y hy
      have d1 := hkp.cell hc1 (by simp)
      have d2 := hkp.cell hc2 (by simp)
      have hyok := HO.out y (List.mem_of_getElem? hy)
      obtain ⟨ya, yv, yl⟩ := y
      obtain ⟨yp, yc, hyv, _⟩ := hyok.own.shape
      simp only [] at hyv d1 d2
      subst hyv
      have hs : heldTo ((rs.map Rn.bn).take (k + 1)) = heldTo ((rs.map Rn.bn).take k) + yl.length := by
        have : (rs.map Rn.bn)[k]? = some (ya, yl) := by rw [List.getElem?_map, hy]; rfl
        obtain ⟨h1, h2⟩ := List.getElem?_eq_some_iff.1 this
        rw [List.take_succ_eq_append_getElem h1, heldTo_append, h2]
        simp [heldTo]
      rw [hs] at hm2
      have HS := Lib.hid hs
      clear hs hc1 hc2 hcells hy hyok
      generalize heldTo ((rs.map Rn.bn).take k) = m at hm hm2 HS
      go_wp2
      go_roundw
      case rel => exact ⟨k + 1, by omega, by go_num, by rw [HS.out]; go_num, (by repeat (first | exact Kp.refl _ _ | assumption | apply Kp.drewN | apply Kp.alloc))⟩
      case measure => simp [intOf]; omega
    · have he : (rs.map Rn.bn).take k = rs.map Rn.bn := List.take_of_length_le (by simp; omega)
      rw [he] at hm ⊢
      clear hm2
      go_wp2
      go_ret
      exact ⟨rfl, hkp⟩

/-- where the first one waits, and how many stand there -/
def firstTo : List Bn → Nat × Nat
  | [] => (0, 0)
  | r :: _ => (r.1, r.2.length)

set_option maxRecDepth 10000 in
set_option maxHeartbeats 1600000 in
theorem first_any {w : World} {b off : Nat} {T : TypeId} {cur : List Value} {p : Option Addr} {rs : List Rn} (h : PcAt w b off T cur p rs) :
    Calls Try.prog 30 #[.pointer (some ⟨b, off, none⟩)] w fun e w' => e = .returned (.tuple #[.int .i64 (firstTo (rs.map Rn.bn)).1, .int .i64 (firstTo (rs.map Rn.bn)).2]) ∧ Kp [] w w' := by
  obtain ⟨c, hc, hcell⟩ := h.at_
  have x1 := h.blk.cell hcell
  have hlen := h.length
  have hr := h.toPcMem.runsAt
  have ho := h.ok
  clear h hcell
  cases rs with
  | nil =>
    go_enter Try.func30, Try.ntmps30
    go_wp2
    go_ret2
    exact ⟨rfl, (by repeat (first | exact Kp.refl _ _ | assumption | apply Kp.drewN | apply Kp.alloc))⟩
  | cons r l =>
    obtain ⟨g, o, rfl, hcells⟩ := hr.resolve_left (by simp)
    obtain ⟨d1, d2⟩ := hcells 0 r rfl
    simp only [Nat.zero_mul, Nat.add_zero] at d1 d2
    have hyok := ho r (by simp)
    obtain ⟨ya, yv, yl⟩ := r
    obtain ⟨yp, yc, hyv, _⟩ := hyok.own.shape
    simp only [] at hyv d1 d2
    subst hyv
    simp only [List.map_cons, firstTo, Rn.bn, List.length_cons] at x1 hlen ⊢
    clear hcells hyok ho hr
    have hne : (((l.length : Int) + 1) == 0) = false := by rw [beq_eq_false_iff_ne]; omega
    go_enter Try.func30, Try.ntmps30
    go_wp2
    go_quiet (fail)
    go_wp2
    go_ret2
    exact ⟨rfl, (by repeat (first | exact Kp.refl _ _ | assumption | apply Kp.drewN | apply Kp.alloc))⟩

end Go.Proofs.Ytodedpmedkgkmaa

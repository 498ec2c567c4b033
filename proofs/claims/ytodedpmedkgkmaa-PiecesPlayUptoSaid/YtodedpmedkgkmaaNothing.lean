/-
  wharflaw13.RingOfNothing: its walk.
-/
import Derived.Test.YtodedpmedkgkmaaKnown
set_option linter.unusedVariables false
set_option linter.unusedSimpArgs false
namespace Go.Proofs.Ytodedpmedkgkmaa
open Go.RowKit

section
variable {w : World} {b : Nat}
theorem Kp.below {w w' : World} (h : Kp [] w w') : Below w.heap.size w w' := ⟨h.os, h.tape, h.output, h.size, fun k hk => h.block k hk (by simp)⟩

/-- a zero Ring -/
def Zero (w : World) (b : Nat) : Prop := Blk w b [.slice none 0 0, .int .i64 0, .int .i64 0] 56

theorem nlen : Calls Try.prog 22 #[.pointer none] w fun e w' => e = .returned (.int .i64 0) ∧ Kp [] w w' := by
  go_enter Try.func22, Try.ntmps22
  go_wp2
  go_ret
  exact ⟨rfl, (by repeat (first | exact Kp.refl _ _ | assumption | apply Kp.drewN | apply Kp.alloc))⟩
theorem nfree : Calls Try.prog 24 #[.pointer none] w fun e w' => e = .returned (.int .i64 0) ∧ Kp [] w w' := by
  go_enter Try.func24, Try.ntmps24
  go_wp2
  go_ret
  exact ⟨rfl, (by repeat (first | exact Kp.refl _ _ | assumption | apply Kp.drewN | apply Kp.alloc))⟩
theorem zlen (h : Zero w b) : Calls Try.prog 22 #[.pointer (some ⟨b, 0, none⟩)] w fun e w' => e = .returned (.int .i64 0) ∧ Kp [] w w' := by
  have c2 := h.cell (off := 2) rfl
  go_enter Try.func22, Try.ntmps22
  go_wp2
  go_ret
  exact ⟨rfl, (by repeat (first | exact Kp.refl _ _ | assumption | apply Kp.drewN | apply Kp.alloc))⟩
theorem zfree (h : Zero w b) : Calls Try.prog 24 #[.pointer (some ⟨b, 0, none⟩)] w fun e w' => e = .returned (.int .i64 0) ∧ Kp [] w w' := by
  have c0 := h.cell (off := 0) rfl
  have c2 := h.cell (off := 2) rfl
  go_enter Try.func24, Try.ntmps24
  go_wp2
  go_quiet (fail)
  go_wp2
  go_ret
  exact ⟨rfl, (by repeat (first | exact Kp.refl _ _ | assumption | apply Kp.drewN | apply Kp.alloc))⟩
theorem nwrite  (q : Option Addr) (n c : Nat) (hn : n ≤ c) (hc : c ≤ 9223372036854775807) : Calls Try.prog 13 #[.pointer none, .slice q n c] w fun e w' => e = .returned (.int .i64 0) ∧ Kp [] w w' := by
  go_enter Try.func13, Try.ntmps13
  go_wp2_with (go_at_call 24; refine nfree.mono ?_; rintro e w1 ⟨rfl, k1⟩)
  all_goals go_ret
  all_goals exact ⟨rfl, (by repeat (first | exact Kp.refl _ _ | assumption | apply Kp.drewN | apply Kp.alloc))⟩
theorem npeek  (n : Int) : Calls Try.prog 17 #[.pointer none, .int .i64 0, .int .i64 n] w fun e w' => e = .returned (.slice none 0 0) ∧ Kp [] w w' := by
  rcases Int.lt_or_le n 0 with hn | hn
  all_goals
    go_enter Try.func17, Try.ntmps17
    go_wp2_with (go_at_call 22; refine nlen.mono ?_; rintro e w1 ⟨rfl, k1⟩)
    go_ret
    exact ⟨rfl, (by repeat (first | exact Kp.refl _ _ | assumption | apply Kp.drewN | apply Kp.alloc))⟩
theorem ndrop  (n : Int) : Calls Try.prog 20 #[.pointer none, .int .i64 n] w fun e w' => e = .returned (.int .i64 0) ∧ Kp [] w w' := by
  rcases Int.lt_or_le n 0 with hn | hn
  all_goals
    go_enter Try.func20, Try.ntmps20
    go_wp2_with (go_at_call 22; refine nlen.mono ?_; rintro e w1 ⟨rfl, k1⟩)
    all_goals go_ret
    all_goals exact ⟨rfl, (by repeat (first | exact Kp.refl _ _ | assumption | apply Kp.drewN | apply Kp.alloc))⟩
theorem zwrite (h : Zero w b) (q : Option Addr) (n c : Nat) (hn : n ≤ c) (hc : c ≤ 9223372036854775807) : Calls Try.prog 13 #[.pointer (some ⟨b, 0, none⟩), .slice q n c] w fun e w' => e = .returned (.int .i64 0) ∧ Kp [] w w' := by
  go_enter Try.func13, Try.ntmps13
  go_wp2_with (go_at_call 24; refine (zfree h).mono ?_; rintro e w1 ⟨rfl, k1⟩)
  all_goals go_ret
  all_goals exact ⟨rfl, (by repeat (first | exact Kp.refl _ _ | assumption | apply Kp.drewN | apply Kp.alloc))⟩
theorem zpeek (h : Zero w b) (n : Int) : Calls Try.prog 17 #[.pointer (some ⟨b, 0, none⟩), .int .i64 0, .int .i64 n] w fun e w' => e = .returned (.slice none 0 0) ∧ Kp [] w w' := by
  rcases Int.lt_or_le n 0 with hn | hn
  all_goals
    go_enter Try.func17, Try.ntmps17
    go_wp2_with (go_at_call 22; refine (zlen h).mono ?_; rintro e w1 ⟨rfl, k1⟩)
    go_ret
    exact ⟨rfl, (by repeat (first | exact Kp.refl _ _ | assumption | apply Kp.drewN | apply Kp.alloc))⟩
theorem zdrop (h : Zero w b) (n : Int) : Calls Try.prog 20 #[.pointer (some ⟨b, 0, none⟩), .int .i64 n] w fun e w' => e = .returned (.int .i64 0) ∧ Kp [] w w' := by
  rcases Int.lt_or_le n 0 with hn | hn
  all_goals
    go_enter Try.func20, Try.ntmps20
    go_wp2_with (go_at_call 22; refine (zlen h).mono ?_; rintro e w1 ⟨rfl, k1⟩)
    all_goals go_ret
    all_goals exact ⟨rfl, (by repeat (first | exact Kp.refl _ _ | assumption | apply Kp.drewN | apply Kp.alloc))⟩

theorem nput (n c : Nat) (q : Option Addr) (i : Int) : Calls Try.prog 26 #[.pointer none, .int .i64 i, .slice q n c] w fun e w' => e = .returned (.slice none 0 0) ∧ Kp [] w w' := by
  go_enter Try.func26, Try.ntmps26
  go_wp2
  go_ret
  exact ⟨rfl, (by repeat (first | exact Kp.refl _ _ | assumption | apply Kp.drewN | apply Kp.alloc))⟩
theorem nheld : Calls Try.prog 27 #[.pointer none] w fun e w' => e = .returned (.int .i64 0) ∧ Kp [] w w' := by
  go_enter Try.func27, Try.ntmps27
  go_wp2
  go_ret
  exact ⟨rfl, (by repeat (first | exact Kp.refl _ _ | assumption | apply Kp.drewN | apply Kp.alloc))⟩
end

theorem nothing_big (q : Option Addr) (n c : Nat) (i : Int) (w : World) (hn : 6000 < n) : Calls Try.prog 6 #[.slice q n c, .int .i64 i] w fun e w' => e = .returned (.bool true) ∧ Kp [] w w' := by
  go_enter Try.func6, Try.ntmps6
  go_wp2
  go_ret
  exact ⟨rfl, (by repeat (first | exact Kp.refl _ _ | assumption | apply Kp.drewN | apply Kp.alloc))⟩


set_option maxHeartbeats 3200000 in
theorem nothing_walk (q : Option Addr) (n c : Nat) (i : Int) (w : World) (hs : n ≤ 6000) (hn : n ≤ c) (hc : c ≤ 9223372036854775807) : Calls Try.prog 6 #[.slice q n c, .int .i64 i] w fun e w' => e = .returned (.bool true) ∧ Kp [] w w' := by
  have hz0 : ∀ w1, Kp [] (w.alloc (.cells #[.slice none 0 0, .int .i64 0, .int .i64 0] 56)) w1 → Zero w1 w.heap.size := fun w1 k => k.blk (Blk.new w _ _) (by simp)
  have HZ := Lib.hid hz0
  clear hz0
  go_enter Try.func6, Try.ntmps6
  go_wp2_with fail
  refine (nwrite q n c hn hc).mono ?_
  rintro e w1 ⟨rfl, k1⟩
  go_wp2_with fail
  refine (zwrite (HZ.out _ (by exact k1)) q n c hn hc).mono ?_
  rintro e w2 ⟨rfl, k2⟩
  replace k2 := k1.trans k2
  go_wp2_with fail
  refine (npeek i).mono ?_
  rintro e w3 ⟨rfl, k3⟩
  replace k3 := k2.trans k3
  go_wp2_with fail
  refine (zpeek (HZ.out _ (by exact k3)) i).mono ?_
  rintro e w4 ⟨rfl, k4⟩
  replace k4 := k3.trans k4
  go_wp2_with fail
  refine (ndrop i).mono ?_
  rintro e w5 ⟨rfl, k5⟩
  replace k5 := k4.trans k5
  go_wp2_with fail
  refine (zdrop (HZ.out _ (by exact k5)) i).mono ?_
  rintro e w6 ⟨rfl, k6⟩
  replace k6 := k5.trans k6
  go_wp2_with fail
  refine nlen.mono ?_
  rintro e w7 ⟨rfl, k7⟩
  replace k7 := k6.trans k7
  go_wp2_with fail
  refine nfree.mono ?_
  rintro e w8 ⟨rfl, k8⟩
  replace k8 := k7.trans k8
  go_wp2_with fail
  refine (zlen (HZ.out _ (by exact k8))).mono ?_
  rintro e w9 ⟨rfl, k9⟩
  replace k9 := k8.trans k9
  go_wp2_with fail
  refine (zfree (HZ.out _ (by exact k9))).mono ?_
  rintro e w10 ⟨rfl, k10⟩
  replace k10 := k9.trans k10
  go_wp2_with fail
  refine (nput n c q 0).mono ?_
  rintro e w11 ⟨rfl, k11⟩
  replace k11 := k10.trans k11
  go_wp2_with fail
  refine nheld.mono ?_
  rintro e w12 ⟨rfl, k12⟩
  replace k12 := k11.trans k12
  go_wp2_with fail
  refine (known_any _).mono ?_
  rintro e w13 ⟨rfl, k13⟩
  replace k13 := k12.trans k13
  go_wp2_with fail
  go_ret
  exact ⟨rfl, ((Kp.refl [] w).alloc _).trans k13⟩

end Go.Proofs.Ytodedpmedkgkmaa

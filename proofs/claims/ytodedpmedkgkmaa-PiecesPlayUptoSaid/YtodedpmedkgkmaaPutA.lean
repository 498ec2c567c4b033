/-
  ring.Pieces: Put, whatever is put.
-/
import Derived.Test.YtodedpmedkgkmaaPutZ
import Derived.Test.YtodedpmedkgkmaaPutS
import Derived.Test.YtodedpmedkgkmaaPutT
set_option linter.unusedVariables false
set_option linter.unusedSimpArgs false
namespace Go.Proofs.Ytodedpmedkgkmaa
open Go.RowKit

theorem put_any {w : World} {b off : Nat} {T : TypeId} {cur : List Value} {p : Option Addr} {rs : List Rn} (h : PcAt w b off T cur p rs) (hT : T ≠ 5) (ahead : Int) (v : Value) (bs : List UInt8) (hb : Byt w v bs) :
    Calls Try.prog 26 #[.pointer (some ⟨b, off, none⟩), .int .i64 ahead, v] w (PutDone w b off T cur p rs (putTo (rs.map Rn.bn) ahead bs)) := by
  obtain ⟨q, c, rfl⟩ := hb.shape
  obtain ⟨_, hnc, hm⟩ := hb.len
  have hc9 : c ≤ 9223372036854775807 := by
    rcases hb with ⟨_, _, h1, _, h3, _⟩ | ⟨_, _, _, h1, _, h3, _⟩
    · simp only [Value.slice.injEq] at h1; unfold maxLen at h3; omega
    · simp only [Value.slice.injEq] at h1; unfold maxLen at h3; omega
  unfold putTo
  by_cases ha : ahead < -1048560 ∨ 1048560 < ahead
  · rw [if_pos ha]
    exact put_out h ahead q _ c ha
  rw [if_neg ha]
  by_cases h0 : ahead < 0
  · obtain ⟨k, hk⟩ : ∃ k : Nat, ahead = -(k : Int) := ⟨(-ahead).toNat, by omega⟩
    subst hk
    have er : putRun (-(k : Int)) bs = (0, (bs.drop k).take 1048560) := by
      unfold putRun
      rw [if_pos h0]
      have e1 : (-(-(k : Int))).toNat = k := by omega
      have e2 : (-(k : Int)).toNat = 0 := by omega
      rw [e1, e2]
    rw [er]
    by_cases hle : bs.length ≤ k
    · rw [List.drop_of_length_le hle, if_pos (by simp)]
      rcases Nat.eq_or_lt_of_le hnc with hcc | hcc
      · subst hcc
        exact put_n1 h _ rfl k q bs.length (by omega) (by omega) hle hc9
      · exact put_n2 h _ rfl k q bs.length c (by omega) (by omega) hle hcc hc9
    · obtain ⟨g, o, rfl, _⟩ := hb.ptr (k := 0) (by omega)
      have hd := hb.drop2 (k := k) (by omega) (by omega)
      simp only [Option.map_some, add_lit] at hd
      obtain ⟨m, hmm⟩ : ∃ m, bs.length = k + m := ⟨bs.length - k, by omega⟩
      have hlen : (bs.drop k).length = m := by simp; omega
      rw [hmm] at hd hnc ⊢
      rw [show k + m - k = m by omega] at hd
      have hne : ¬ (bs.drop k).take 1048560 = [] := by
        intro e
        have := congrArg List.length e
        rw [List.length_take, List.length_drop, List.length_nil] at this
        omega
      rw [if_neg hne]
      rcases Nat.lt_or_ge 1048560 m with hbig | hsm
      · refine put_some4 h hT k m g o _ c (hd.take (by omega)) (by omega) (by omega) (by simp; omega) hnc hbig hc9
      · rw [List.take_of_length_le (by omega)]
        exact put_some3 h hT k m g o _ c hd (by omega) (by omega) hlen hnc (by omega) hsm hc9
  · obtain ⟨a, rfl⟩ := Int.eq_ofNat_of_zero_le (show 0 ≤ ahead by omega)
    have er : putRun (a : Int) bs = (a, bs.take (1048560 - a)) := by
      unfold putRun
      rw [if_neg h0]
      rfl
    rw [er]
    by_cases hz : bs.length = 0
    · have hb0 : bs = [] := List.eq_nil_of_length_eq_zero hz
      rw [if_pos (by rw [hb0]; simp)]
      rcases Nat.lt_or_ge a 1048560 with h1 | h1
      · exact put_z1 h _ rfl a q bs.length c h1 hnc (by omega) hc9
      · exact put_z2 h _ rfl a q bs.length c h1 (by omega) hnc (by omega) hc9
    · rcases Nat.lt_or_ge a 1048560 with h1 | h1
      · obtain ⟨g, o, rfl, _⟩ := hb.ptr (k := 0) (by omega)
        have hne : ¬ bs.take (1048560 - a) = [] := by
          intro e
          have := congrArg List.length e
          rw [List.length_take, List.length_nil] at this
          omega
        rw [if_neg hne]
        rcases Nat.lt_or_ge (1048560 - a) bs.length with h2 | h2
        · have hb2 := hb.take (k := 1048560 - a) (by omega)
          have := put_some2 h hT (1048560 - a) bs.length g o (bs.take (1048560 - a)) c hb2 (by simp; omega) hnc (by omega) (by omega) h2 hc9
          rw [show (1048560 : Int) - ((1048560 - a : Nat) : Int) = (a : Int) by omega, show 1048560 - (1048560 - a) = a by omega] at this
          exact this
        · rw [List.take_of_length_le h2]
          exact put_some1 h hT a g o bs c hb h1 hnc (by omega) (by omega) hc9
      · rw [if_pos (by rw [show 1048560 - a = 0 by omega]; simp)]
        exact put_z3 h _ rfl a q bs.length c h1 (by omega) hnc (by omega) hc9

end Go.Proofs.Ytodedpmedkgkmaa

/-
  A row that goes round: the plain law of writing, reading, dropping. No program.
-/
import Derived.Test.YtodedpmedkgkmaaMem
set_option linter.unusedVariables false
set_option linter.unusedSimpArgs false
namespace Go.Proofs.Ytodedpmedkgkmaa
open Go.RowKit

theorem getD_splice {L cs : List UInt8} {off : Nat} (hf : off + cs.length ≤ L.length) (j : Nat) :
    (splice L off cs).getD j 0 = if off ≤ j ∧ j < off + cs.length then cs.getD (j - off) 0 else L.getD j 0 := by
  unfold splice
  simp only [List.getD_eq_getElem?_getD]
  split
  · rename_i h
    rw [List.getElem?_append_right (by simp; omega), List.getElem?_append_left (by simp; omega)]
    congr 2
    simp; omega
  · rename_i h
    rcases Nat.lt_or_ge j off with h1 | h1
    · rw [List.getElem?_append_left (by simp; omega), List.getElem?_take, if_pos h1]
    · rw [List.getElem?_append_right (by simp; omega), List.getElem?_append_right (by simp; omega), List.getElem?_drop]
      congr 2
      simp; omega

theorem getD_take' {l : List UInt8} {n i : Nat} (h : i < n) : (l.take n).getD i 0 = l.getD i 0 := by
  simp [List.getD_eq_getElem?_getD, List.getElem?_take, h]

theorem getD_drop' (l : List UInt8) (n i : Nat) : (l.drop n).getD i 0 = l.getD (n + i) 0 := by
  simp [List.getD_eq_getElem?_getD, List.getElem?_drop]

theorem getD_append' (l m : List UInt8) (i : Nat) : (l ++ m).getD i 0 = if i < l.length then l.getD i 0 else m.getD (i - l.length) 0 := by
  simp only [List.getD_eq_getElem?_getD]
  split
  · rw [List.getElem?_append_left (by assumption)]
  · rw [List.getElem?_append_right (by omega)]

theorem mod_at {a i r : Nat} (ha : a < r) (hi : i ≤ r) : (a + i) % r = if a + i < r then a + i else a + i - r := by
  split
  · exact Nat.mod_eq_of_lt (by assumption)
  · rw [Nat.mod_eq_sub_mod (by omega), Nat.mod_eq_of_lt (by omega)]

/-- what a row holds from 'at_' on, going round -/
def Holds (row : List UInt8) (at_ : Nat) (q : List UInt8) : Prop := ∀ i, i < q.length → row.getD ((at_ + i) % row.length) 0 = q.getD i 0

theorem length_splice' {L cs : List UInt8} {off : Nat} (hf : off + cs.length ≤ L.length) : (splice L off cs).length = L.length := by
  unfold splice; simp; omega

theorem holds_write {row q p : List UInt8} {at_ : Nat} (ha : at_ < row.length) (hq : q.length + p.length ≤ row.length) (h : Holds row at_ q) :
    Holds (splice (splice row ((at_ + q.length) % row.length) (p.take (min p.length (row.length - (at_ + q.length) % row.length)))) 0 (p.drop (min p.length (row.length - (at_ + q.length) % row.length)))) at_ (q ++ p) := by
  have hs := mod_at ha (show q.length ≤ row.length by omega)
  generalize hS : (at_ + q.length) % row.length = s at *
  have hsl : s < row.length := by rw [← hS]; exact Nat.mod_lt _ (by omega)
  have l1 : (p.take (min p.length (row.length - s))).length = min p.length (row.length - s) := by simp
  have l2 : (p.drop (min p.length (row.length - s))).length = p.length - min p.length (row.length - s) := by simp
  have f1 : s + (p.take (min p.length (row.length - s))).length ≤ row.length := by rw [l1]; omega
  have e1 := length_splice' f1
  have f2 : 0 + (p.drop (min p.length (row.length - s))).length ≤ (splice row s (p.take (min p.length (row.length - s)))).length := by rw [l2, e1]; omega
  have e2 := length_splice' f2
  intro i hi
  rw [e2, e1]
  rw [List.length_append] at hi
  rw [getD_splice f2, getD_splice f1, l1, l2, getD_append']
  have hm := mod_at ha (show i ≤ row.length by omega)
  generalize (at_ + i) % row.length = j at *
  by_cases hiq : i < q.length
  · rw [if_pos hiq, if_neg (by split at hs <;> split at hm <;> omega), if_neg (by split at hs <;> split at hm <;> omega)]
    have := h i hiq
    rw [mod_at ha (by omega)] at this
    rw [← hm] at this
    exact this
  · rw [if_neg hiq]
    by_cases hz : 0 ≤ j ∧ j < 0 + (p.length - min p.length (row.length - s))
    · rw [if_pos hz, getD_drop']
      congr 1
      split at hs <;> split at hm <;> omega
    · rw [if_neg hz, if_pos (by split at hs <;> split at hm <;> omega), getD_take' (by split at hs <;> split at hm <;> omega)]
      congr 1
      split at hs <;> split at hm <;> omega

theorem list_ext_getD {a b : List UInt8} (h : a.length = b.length) (hi : ∀ i, i < a.length → a.getD i 0 = b.getD i 0) : a = b := by
  apply List.ext_getElem h
  intro i h1 h2
  have := hi i h1
  simpa [List.getD_eq_getElem?_getD, h1, h2] using this

/-- two copies out of the row: from the place on, then from the head -/
theorem holds_read {row q : List UInt8} {at_ k n : Nat} (ha : at_ < row.length) (hq : q.length ≤ row.length) (h : Holds row at_ q) (hk : k + n ≤ q.length) (hkl : k < q.length) :
    (row.drop ((at_ + k) % row.length)).take n ++ (row.take (n - (row.length - (at_ + k) % row.length))) = (q.drop k).take n := by
  have hs := mod_at ha (show k ≤ row.length by omega)
  generalize (at_ + k) % row.length = s at *
  have hsl : s < row.length := by split at hs <;> omega
  apply list_ext_getD
  · simp; omega
  · intro i hi
    have hin : i < n := by simp at hi; omega
    rw [getD_take' hin, getD_drop']
    have hh := h (k + i) (by omega)
    rw [mod_at ha (by omega)] at hh
    rw [getD_append', ← hh]
    simp only [List.length_take, List.length_drop]
    split
    · rw [getD_take' (by omega), getD_drop']
      congr 1
      split at hs <;> split <;> omega
    · rw [getD_take' (by omega)]
      congr 1
      split at hs <;> split <;> omega

theorem holds_drop {row q : List UInt8} {at_ k : Nat} (ha : at_ < row.length) (hq : q.length ≤ row.length) (h : Holds row at_ q) (hk : k ≤ q.length) :
    Holds row ((at_ + k) % row.length) (q.drop k) := by
  intro i hi
  rw [List.length_drop] at hi
  have hh := h (k + i) (by omega)
  rw [getD_drop', ← hh, Nat.mod_add_mod]
  congr 2
  omega

theorem holds_nil (row : List UInt8) (at_ : Nat) : Holds row at_ [] := fun i hi => by simp at hi

end Go.Proofs.Ytodedpmedkgkmaa

/-
  The document's Put, its lists: a plain law. No program.
-/
import Derived.Test.YtodedpmedkgkmaaRefPlain
set_option linter.unusedVariables false
set_option linter.unusedSimpArgs false
namespace Go.Proofs.Ytodedpmedkgkmaa

theorem up_length {L : List Bp} (h : Up L) {n : Nat} (ht : ∀ p ∈ L, p.1 < n) : ∀ m, (∀ p ∈ L, m ≤ p.1) → m ≤ n → m + L.length ≤ n := by
  induction L with
  | nil => intro m _ hm; simpa using hm
  | cons p L ih =>
    intro m hm hmn
    have h1 := hm p (by simp)
    have h2 := ht p (by simp)
    have hl := (List.pairwise_cons.1 h).1
    have := ih (List.pairwise_cons.1 h).2 (fun x hx => ht x (by simp [hx])) (m + 1) (fun x hx => by have := hl x hx; omega) (by omega)
    simp; omega

theorem brings_next {ahead : Int} {bs : List UInt8} {i : Nat} (hi : i < bs.length) (x : Nat) :
    brings ahead (bs.take (i + 1)) x = if (x : Int) = ahead + i ∧ x < 1048560 then some (bs.getD i 0) else brings ahead (bs.take i) x := by
  unfold brings
  by_cases h1 : x < 1048560 ∧ ahead ≤ x
  · rw [if_pos h1, if_pos h1, List.getElem?_take, List.getElem?_take]
    by_cases h2 : (x : Int) = ahead + i
    · rw [if_pos (show (x : Int) = ahead + i ∧ x < 1048560 by omega)]
      have e : ((x : Int) - ahead).toNat = i := by omega
      rw [e, if_pos (by omega)]
      simp [List.getD_eq_getElem?_getD, List.getElem?_eq_getElem hi]
    · rw [if_neg (show ¬ ((x : Int) = ahead + i ∧ x < 1048560) by omega)]
      by_cases h3 : ((x : Int) - ahead).toNat < i
      · rw [if_pos (by omega), if_pos h3]
      · rw [if_neg (by omega), if_neg h3]
  · rw [if_neg h1, if_neg h1, if_neg (by omega)]

/-- where the document's Put stands: so many of the bytes, so many of the pieces, what was laid -/
structure MergeOk (ahead : Int) (bs : List UInt8) (L : List Bp) (i k : Nat) (m : List Bp) : Prop where
  up : Up (m ++ L.drop k)
  got : ∀ x, getL (m ++ L.drop k) x = (getL L x).or (brings ahead (bs.take i) x)
  lt : ∀ p ∈ m, (p.1 : Int) < ahead + i
  top : ∀ p ∈ m, p.1 < 1048560

section
variable {ahead : Int} {bs : List UInt8} {L : List Bp} {i k : Nat} {m : List Bp}

theorem MergeOk.start (h : Up L) : MergeOk ahead bs L 0 0 [] := by
  refine ⟨by simpa using h, fun x => ?_, by simp, by simp⟩
  have : brings ahead (bs.take 0) x = none := by unfold brings; simp
  rw [this]; simp

theorem MergeOk.skip (h : MergeOk ahead bs L i k m) (hi : i < bs.length) (ho : ahead + i < 0 ∨ 1048560 ≤ ahead + i) : MergeOk ahead bs L (i + 1) k m :=
  ⟨h.up, fun x => by rw [h.got, brings_next hi, if_neg (by omega)], fun p hp => by have := h.lt p hp; omega, h.top⟩

theorem drop_cons {k : Nat} (hk : k < L.length) : L.drop k = L.getD k (0, 0) :: L.drop (k + 1) := by
  rw [List.drop_eq_getElem_cons hk]
  simp [List.getD_eq_getElem?_getD, List.getElem?_eq_getElem hk]

theorem MergeOk.move (h : MergeOk ahead bs L i k m) (hk : k < L.length) (hlt : ((L.getD k (0, 0)).1 : Int) < ahead + i) (ht : ahead + i < 1048560) : MergeOk ahead bs L i (k + 1) (m ++ [L.getD k (0, 0)]) := by
  have e : (m ++ [L.getD k (0, 0)]) ++ L.drop (k + 1) = m ++ L.drop k := by rw [drop_cons hk]; simp
  refine ⟨by rw [e]; exact h.up, fun x => by rw [e]; exact h.got x, ?_, ?_⟩
  · intro p hp
    rcases List.mem_append.1 hp with hp | hp
    · exact h.lt p hp
    · simp only [List.mem_singleton] at hp; subst hp; exact hlt
  · intro p hp
    rcases List.mem_append.1 hp with hp | hp
    · exact h.top p hp
    · simp only [List.mem_singleton] at hp; subst hp; omega

theorem MergeOk.keep (h : MergeOk ahead bs L i k m) (hU : Up L) (hi : i < bs.length) (hk : k < L.length) (he : ((L.getD k (0, 0)).1 : Int) = ahead + i) : MergeOk ahead bs L (i + 1) k m := by
  refine ⟨h.up, fun x => ?_, fun p hp => by have := h.lt p hp; omega, h.top⟩
  rw [h.got, brings_next hi]
  split
  · rename_i hx
    have hm : L.getD k (0, 0) ∈ L := by
      simp only [List.getD_eq_getElem?_getD, List.getElem?_eq_getElem hk, Option.getD_some]
      exact List.getElem_mem _
    have e : (L.getD k (0, 0)).1 = x := by omega
    have := getL_mem hU hm
    rw [e] at this
    rw [this]
    rfl
  · rfl

theorem MergeOk.add (h : MergeOk ahead bs L i k m) (hi : i < bs.length) (h0 : 0 ≤ ahead + i) (ht : ahead + i < 1048560) (hk : k < L.length → ahead + i < ((L.getD k (0, 0)).1 : Int)) (a : Nat) (ha : (a : Int) = ahead + i) :
    MergeOk ahead bs L (i + 1) k (m ++ [(a, bs.getD i 0)]) := by
  have hup := List.pairwise_append.1 h.up
  have hgt : ∀ p ∈ L.drop k, a < p.1 := by
    intro p hp
    have hkl : k < L.length := by
      refine Decidable.byContradiction fun hc => ?_
      rw [List.drop_of_length_le (by omega)] at hp
      cases hp
    have h1 := hk hkl
    have h2 := hup.2.1
    rw [drop_cons hkl] at hp h2
    rcases List.mem_cons.1 hp with rfl | hp
    · omega
    · have := (List.pairwise_cons.1 h2).1 p hp
      omega
  have hlt : ∀ p ∈ m, p.1 < a := fun p hp => by have := h.lt p hp; omega
  have hno : getL (m ++ L.drop k) a = none := getL_none fun p hp => by
    rcases List.mem_append.1 hp with hp | hp
    · have := hlt p hp; omega
    · have := hgt p hp; omega
  refine ⟨?_, fun x => ?_, ?_, ?_⟩
  · rw [List.append_assoc]
    refine List.pairwise_append.2 ⟨hup.1, ?_, ?_⟩
    · exact List.pairwise_cons.2 ⟨hgt, hup.2.1⟩
    · intro p hp q hq
      rcases List.mem_cons.1 hq with rfl | hq
      · exact hlt p hp
      · exact hup.2.2 p hp q hq
  · rw [brings_next hi]
    by_cases hx : x = a
    · subst hx
      rw [if_pos (by omega)]
      have h5 := h.got x
      rw [hno] at h5
      have h6 : getL L x = none := by
        cases hg : getL L x with
        | none => rfl
        | some v => rw [hg] at h5; cases h5
      rw [h6, List.append_assoc, getL_append, getL_none (l := m) (fun p hp => by have := hlt p hp; omega)]
      simp [getL]
    · rw [if_neg (by omega), ← h.got x, List.append_assoc, getL_append, getL_append]
      have e : getL [(a, bs.getD i 0)] x = none := getL_none fun p hp => by simp only [List.mem_singleton] at hp; subst hp; exact fun e => hx e.symm
      rw [e, getL_append, Option.none_or]
  · intro p hp
    rcases List.mem_append.1 hp with hp | hp
    · have := h.lt p hp; omega
    · simp only [List.mem_singleton] at hp; subst hp; simp only []; omega
  · intro p hp
    rcases List.mem_append.1 hp with hp | hp
    · exact h.top p hp
    · simp only [List.mem_singleton] at hp; subst hp; simp only []; omega
end

/-- the head of the merged list comes out -/
theorem ref_ok {F : List Bp} (hU : Up F) {o : List UInt8} (ho : ∀ j, j < o.length → F[j]? = some (j, o.getD j 0)) (hl : o.length ≤ F.length) (hs : o.length < F.length → (F.getD o.length (0, 0)).1 ≠ o.length) :
    RefOk (getL F) o ((F.drop o.length).map fun p => (p.1 - o.length, p.2)) := by
  have hge : ∀ p ∈ F.drop o.length, o.length < p.1 := by
    intro p hp
    have hlt : o.length < F.length := by
      refine Decidable.byContradiction fun hc => ?_
      rw [List.drop_of_length_le (by omega)] at hp
      cases hp
    have h1 := hs hlt
    -- the places rise: the j-th is at least j
    have hj : ∀ j, j < F.length → j ≤ (F.getD j (0, 0)).1 := by
      intro j
      induction j with
      | zero => intro _; omega
      | succ j ih =>
        intro hj
        have := ih (by omega)
        have h3 := List.pairwise_iff_getElem.1 hU j (j + 1) (by omega) hj (by omega)
        simp only [List.getD_eq_getElem?_getD, List.getElem?_eq_getElem hj, List.getElem?_eq_getElem (show j < F.length by omega), Option.getD_some] at this ⊢
        omega
    have h2 := hj _ hlt
    have h3 : Up (F.drop o.length) := List.Pairwise.sublist (List.drop_sublist _ _) hU
    rw [drop_cons hlt] at hp h3
    rcases List.mem_cons.1 hp with rfl | hp
    · omega
    · have := (List.pairwise_cons.1 h3).1 p hp
      omega
  refine ⟨?_, ?_, ?_, ?_⟩
  · rw [Up, List.pairwise_map]
    refine List.Pairwise.imp_of_mem ?_ (List.Pairwise.sublist (List.drop_sublist _ _) hU)
    intro a b ha hb hab
    have := hge a ha
    have := hge b hb
    simp only []
    omega
  · intro i hi
    have h1 := ho i hi
    have h2 := getL_mem hU (List.mem_of_getElem? h1)
    simp only [] at h2
    rw [h2]
    simp [List.getD_eq_getElem?_getD, List.getElem?_eq_getElem hi]
  · refine getL_none fun p hp => ?_
    rw [← List.take_append_drop o.length F] at hp
    rcases List.mem_append.1 hp with hp | hp
    · obtain ⟨j, hj⟩ := List.mem_iff_getElem?.1 hp
      rw [List.getElem?_take] at hj
      split at hj
      · rename_i hjl
        rw [ho j hjl] at hj
        simp only [Option.some.injEq] at hj
        subst hj
        simp only []
        omega
      · cases hj
    · have := hge p hp; omega
  · intro i
    have e : getL F (i + o.length) = getL (F.drop o.length) (i + o.length) := by
      conv => lhs; rw [← List.take_append_drop o.length F]
      rw [getL_append, getL_none (l := F.take o.length), Option.none_or]
      intro p hp
      obtain ⟨j, hj⟩ := List.mem_iff_getElem?.1 hp
      rw [List.getElem?_take] at hj
      split at hj
      · rename_i hjl
        rw [ho j hjl] at hj
        simp only [Option.some.injEq] at hj
        subst hj
        simp only []
        omega
      · cases hj
    rw [e]
    generalize F.drop o.length = T at hge
    induction T with
    | nil => rfl
    | cons p T ih =>
      have hp := hge p (by simp)
      simp only [List.map_cons, getL, ih (fun q hq => hge q (by simp [hq]))]
      by_cases h5 : p.1 = i + o.length
      · rw [if_pos h5, if_pos (by omega)]
      · rw [if_neg h5, if_neg (by omega)]

end Go.Proofs.Ytodedpmedkgkmaa

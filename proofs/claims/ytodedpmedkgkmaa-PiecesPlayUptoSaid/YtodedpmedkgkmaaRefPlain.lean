/-
  The document's pieces: a plain law. No program.
-/
import Derived.Test.YtodedpmedkgkmaaPiecesPlain
set_option linter.unusedVariables false
set_option linter.unusedSimpArgs false
namespace Go.Proofs.Ytodedpmedkgkmaa

abbrev Bp := Nat × UInt8

def heldTo' : List Bn → Nat
  | [] => 0
  | r :: l => r.2.length + heldTo' l

/-- the byte at a place -/
def getL : List Bp → Nat → Option UInt8
  | [], _ => none
  | p :: l, i => if p.1 = i then some p.2 else getL l i

abbrev Up (l : List Bp) : Prop := l.Pairwise fun a b => a.1 < b.1

theorem getL_append (a b : List Bp) (i : Nat) : getL (a ++ b) i = (getL a i).or (getL b i) := by
  induction a with
  | nil => rfl
  | cons p a ih =>
    simp only [List.cons_append, getL, ih]
    split <;> rfl

theorem getL_none {l : List Bp} {i : Nat} (h : ∀ p ∈ l, p.1 ≠ i) : getL l i = none := by
  induction l with
  | nil => rfl
  | cons p l ih =>
    simp only [getL]
    rw [if_neg (h p (by simp)), ih (fun q hq => h q (by simp [hq]))]

theorem getL_mem {l : List Bp} (h : Up l) {p : Bp} (hp : p ∈ l) : getL l p.1 = some p.2 := by
  induction l with
  | nil => cases hp
  | cons q l ih =>
    simp only [getL]
    rcases List.mem_cons.1 hp with rfl | hp
    · rw [if_pos rfl]
    · have := (List.pairwise_cons.1 h).1 p hp
      rw [if_neg (by omega), ih (List.pairwise_cons.1 h).2 hp]

theorem getL_some {l : List Bp} {i : Nat} {v : UInt8} (h : getL l i = some v) : (i, v) ∈ l := by
  induction l with
  | nil => cases h
  | cons q l ih =>
    simp only [getL] at h
    split at h
    · rename_i hq
      simp only [Option.some.injEq] at h
      subst hq; subst h
      simp
    · exact List.mem_cons_of_mem _ (ih h)

theorem up_uniq {a b : List Bp} (ha : Up a) (hb : Up b) (h : ∀ i, getL a i = getL b i) : a = b := by
  induction a generalizing b with
  | nil =>
    cases b with
    | nil => rfl
    | cons q b => have := h q.1; simp [getL] at this
  | cons p a ih =>
    cases b with
    | nil => have := h p.1; simp [getL] at this
    | cons q b =>
      have ha' := (List.pairwise_cons.1 ha).1
      have hb' := (List.pairwise_cons.1 hb).1
      have e1 : p.1 = q.1 := by
        rcases Nat.lt_trichotomy p.1 q.1 with h1 | h1 | h1
        · have h2 := h p.1
          rw [getL_mem ha (by simp), getL_none (l := q :: b)] at h2
          · cases h2
          · intro r hr
            rcases List.mem_cons.1 hr with rfl | hr
            · omega
            · have := hb' r hr; omega
        · exact h1
        · have h2 := h q.1
          rw [getL_mem hb (by simp), getL_none (l := p :: a)] at h2
          · cases h2
          · intro r hr
            rcases List.mem_cons.1 hr with rfl | hr
            · omega
            · have := ha' r hr; omega
      have e2 : p.2 = q.2 := by
        have h2 := h p.1
        rw [getL_mem ha (by simp), e1, getL_mem hb (by simp)] at h2
        simpa using h2
      have e3 : p = q := Prod.ext e1 e2
      subst e3
      rw [ih (List.pairwise_cons.1 ha).2 (List.pairwise_cons.1 hb).2 fun i => ?_]
      have h2 := h i
      simp only [getL] at h2
      by_cases hi : p.1 = i
      · subst hi
        rw [getL_none (fun r hr => by have := ha' r hr; omega), getL_none (fun r hr => by have := hb' r hr; omega)]
      · simpa [hi] using h2

def flat1 (r : Bn) : List Bp := (List.range r.2.length).map fun j => (r.1 + j, r.2.getD j 0)
def flat (rs : List Bn) : List Bp := rs.flatMap flat1

theorem flat1_mem {r : Bn} {p : Bp} (h : p ∈ flat1 r) : r.1 ≤ p.1 ∧ p.1 < r.1 + r.2.length := by
  unfold flat1 at h
  obtain ⟨j, hj, rfl⟩ := List.mem_map.1 h
  have := List.mem_range.1 hj
  simp only []
  omega

theorem flat1_get (r : Bn) (i : Nat) : getL (flat1 r) i = get1 r i := by
  have hup : Up (flat1 r) := by
    unfold flat1
    rw [Up, List.pairwise_map]
    exact List.Pairwise.imp (fun h => by simp only []; omega) List.pairwise_lt_range
  by_cases hi : r.1 ≤ i ∧ i < r.1 + r.2.length
  · have hm : (i, r.2.getD (i - r.1) 0) ∈ flat1 r := List.mem_map.2 ⟨i - r.1, List.mem_range.2 (by omega), by simp; omega⟩
    rw [getL_mem hup hm]
    unfold get1
    rw [if_pos hi.1]
    simp [List.getD_eq_getElem?_getD, List.getElem?_eq_getElem (show i - r.1 < r.2.length by omega)]
  · rw [getL_none (fun p hp => by have := flat1_mem hp; omega), get1_none (by omega)]

theorem flat_get (rs : List Bn) (i : Nat) : getL (flat rs) i = gets rs i := by
  induction rs with
  | nil => rfl
  | cons r rs ih =>
    show getL (flat1 r ++ flat rs) i = _
    rw [getL_append, flat1_get, ih]
    rfl

theorem flat_mem {rs : List Bn} {p : Bp} (h : p ∈ flat rs) : ∃ r ∈ rs, r.1 ≤ p.1 ∧ p.1 < r.1 + r.2.length := by
  obtain ⟨r, hr, hp⟩ := List.mem_flatMap.1 h
  exact ⟨r, hr, flat1_mem hp⟩

theorem flat_up {rs : List Bn} (h : Rises rs) : Up (flat rs) := by
  induction rs with
  | nil => simp [flat]
  | cons r rs ih =>
    show Up (flat1 r ++ flat rs)
    refine List.pairwise_append.2 ⟨?_, ih (rises_right (a := [r]) h), ?_⟩
    · unfold flat1
      rw [List.pairwise_map]
      exact List.Pairwise.imp (fun h => by simp only []; omega) List.pairwise_lt_range
    · intro a ha b hb
      have h1 := flat1_mem ha
      obtain ⟨q, hq, h2⟩ := flat_mem hb
      have := (List.pairwise_cons.1 h.up).1 q hq
      omega

theorem flat_length (rs : List Bn) : (flat rs).length = heldTo' rs := by
  induction rs with
  | nil => rfl
  | cons r rs ih =>
    show (flat1 r ++ flat rs).length = _
    rw [List.length_append, ih]
    simp [flat1, heldTo']

/-- both hold the same -/
structure Same (rs : List Bn) (L : List Bp) : Prop where
  runs : RunsOk rs
  up : Up L
  eq : ∀ i, gets rs i = getL L i

theorem Same.flat {rs : List Bn} {L : List Bp} (h : Same rs L) : L = flat rs := up_uniq h.up (flat_up h.runs.toRises) fun i => by rw [flat_get, h.eq]

theorem Same.nil : Same [] [] := ⟨⟨⟨by simp, by simp⟩, by simp, by simp⟩, List.Pairwise.nil, fun _ => rfl⟩

theorem Same.held {rs : List Bn} {L : List Bp} (h : Same rs L) : L.length = heldTo' rs := by rw [h.flat, flat_length]

/-- how many stand in a row at the head -/
def rowLen (L : List Bp) (n : Nat) : Prop := 0 < n ∧ n ≤ L.length ∧ (∀ j, j < n → (L.getD j (0, 0)).1 = (L.getD 0 (0, 0)).1 + j) ∧ (n < L.length → (L.getD n (0, 0)).1 ≠ (L.getD 0 (0, 0)).1 + n)

theorem Same.first {r : Bn} {rs : List Bn} {L : List Bp} (h : Same (r :: rs) L) {n : Nat} (hn : rowLen L n) : (L.getD 0 (0, 0)).1 = r.1 ∧ n = r.2.length := by
  have hp := h.runs.pos r (by simp)
  have hf : L = flat1 r ++ Proofs.Ytodedpmedkgkmaa.flat rs := h.flat
  have hl : (flat1 r).length = r.2.length := by simp [flat1]
  have h1 : ∀ j, j < r.2.length → (L.getD j (0, 0)).1 = r.1 + j := by
    intro j hj
    rw [hf, List.getD_eq_getElem?_getD, List.getElem?_append_left (by omega)]
    unfold flat1
    simp [List.getElem?_range hj]
  have h0 := h1 0 hp
  rw [Nat.add_zero] at h0
  refine ⟨h0, ?_⟩
  obtain ⟨n1, n2, n3, n4⟩ := hn
  rw [h0] at n3 n4
  rcases Nat.lt_trichotomy n r.2.length with h2 | h2 | h2
  · have hL : n < L.length := by rw [hf, List.length_append]; omega
    exact absurd (h1 n h2) (n4 hL)
  · exact h2
  · exfalso
    have h3 := n3 r.2.length h2
    have hL : r.2.length < L.length := by omega
    have hm : L[r.2.length] ∈ Proofs.Ytodedpmedkgkmaa.flat rs := by
      have hx : r.2.length - (flat1 r).length < (Proofs.Ytodedpmedkgkmaa.flat rs).length := by
        have := congrArg List.length hf
        rw [List.length_append] at this
        omega
      have e : L[r.2.length]? = (Proofs.Ytodedpmedkgkmaa.flat rs)[r.2.length - (flat1 r).length]? := by
        conv => lhs; rw [hf]
        rw [List.getElem?_append_right (by omega)]
      rw [List.getElem?_eq_getElem hL, List.getElem?_eq_getElem hx] at e
      simp only [Option.some.injEq] at e
      rw [e]
      exact List.getElem_mem _
    obtain ⟨q, hq, h4, _⟩ := flat_mem hm
    have h5 := (List.pairwise_cons.1 h.runs.up).1 q hq
    rw [List.getD_eq_getElem?_getD, List.getElem?_eq_getElem hL] at h3
    simp at h3
    omega

/-- what the document's Put answers: the bytes at the head, and the others -/
structure RefOk (f : Nat → Option UInt8) (out : List UInt8) (L : List Bp) : Prop where
  up : Up L
  got : ∀ i, i < out.length → f i = out[i]?
  stop : f out.length = none
  rest : ∀ i, getL L i = f (i + out.length)

theorem RefOk.same {f : Nat → Option UInt8} {out : List UInt8} {L : List Bp} (h : RefOk f out L) {o : List UInt8 × List Bn} (p : PutOk f o) : o.1 = out ∧ Same o.2 L := by
  have hl : o.1.length = out.length := by
    rcases Nat.lt_trichotomy o.1.length out.length with h1 | h1 | h1
    · have h2 := h.got _ h1
      rw [p.stop, List.getElem?_eq_getElem h1] at h2
      cases h2
    · exact h1
    · have h2 := p.out _ h1
      rw [h.stop, List.getElem?_eq_getElem h1] at h2
      cases h2
  refine ⟨List.ext_getElem? fun i => ?_, p.runs, h.up, fun i => by rw [p.rest, h.rest, hl]⟩
  by_cases hi : i < out.length
  · rw [← h.got i hi, p.out i (by omega)]
  · rw [List.getElem?_eq_none (by omega), List.getElem?_eq_none (by omega)]

end Go.Proofs.Ytodedpmedkgkmaa

/-
  wharflaw13.PiecesRow: its plain law.
-/
import Derived.Test.YtodedpmedkgkmaaPiecesPlain
set_option linter.unusedVariables false
set_option linter.unusedSimpArgs false
namespace Go.Proofs.Ytodedpmedkgkmaa

/-- which bytes were put, how far they came out, what waits -/
structure RowSt (bs : List UInt8) (hs : Nat → Bool) (G : Nat) (l : List Bn) : Prop where
  hle : G ≤ bs.length
  front : ∀ i, i < G → hs i = true
  gap : hs G = false
  top : ∀ i, bs.length ≤ i → hs i = false
  got : ∀ i, gets l i = if hs (G + i) = true then bs[G + i]? else none
  runs : RunsOk l

theorem RowSt.nil (bs : List UInt8) : RowSt bs (fun _ => false) 0 [] :=
  ⟨Nat.zero_le _, by omega, rfl, fun _ _ => rfl, by simp [gets], ⟨⟨by simp, by simp⟩, by simp, by simp⟩⟩

theorem RowSt.put {bs : List UInt8} {hs : Nat → Bool} {G : Nat} {l : List Bn} (h : RowSt bs hs G l) {A E : Nat} (hAE : A ≤ E) (hE : E ≤ bs.length) (hb : bs.length ≤ 1500) (o : List UInt8 × List Bn) (ho : putTo l ((A : Int) - G) ((bs.drop A).take (E - A)) = o) :
    RowSt bs (fun i => hs i || (decide (A ≤ i) && decide (i < E))) (G + o.1.length) o.2 ∧ bs.take G ++ o.1 = bs.take (G + o.1.length) := by
  have hG := h.hle
  have P := putTo_ok h.runs ((A : Int) - G) ((bs.drop A).take (E - A)) (by omega)
  rw [ho] at P
  have hlt : ∀ i, hs i = true → i < bs.length := fun i hi => Decidable.byContradiction fun hc => by rw [h.top i (by omega)] at hi; cases hi
  have hf : ∀ i, (gets l i).or (brings ((A : Int) - G) ((bs.drop A).take (E - A)) i) = if (hs (G + i) || (decide (A ≤ G + i) && decide (G + i < E))) = true then bs[G + i]? else none := by
    intro i
    rw [h.got i]
    by_cases h1 : hs (G + i) = true
    · have := hlt _ h1
      simp [h1, List.getElem?_eq_getElem this]
    · simp only [h1, if_false, Option.none_or, Bool.false_or, Bool.false_eq_true]
      unfold brings
      by_cases h2 : A ≤ G + i ∧ G + i < E
      · rw [if_pos (by omega), if_pos (by simpa using h2), List.getElem?_take, if_pos (by omega), List.getElem?_drop]
        congr 1
        omega
      · rw [if_neg (show ¬ (decide (A ≤ G + i) && decide (G + i < E)) = true by simpa using h2)]
        split
        · rw [List.getElem?_take]
          split
          · omega
          · rfl
        · rfl
  have hn : ∀ i, i < o.1.length → (hs (G + i) || (decide (A ≤ G + i) && decide (G + i < E))) = true ∧ bs[G + i]? = o.1[i]? := by
    intro i hi
    have h1 := P.out i hi
    simp only [hf i] at h1
    split at h1
    · rename_i hc; exact ⟨hc, h1⟩
    · rw [List.getElem?_eq_getElem hi] at h1; cases h1
  have hle : G + o.1.length ≤ bs.length := by
    by_cases h0 : o.1.length = 0
    · omega
    · have := (hn (o.1.length - 1) (by omega)).2
      rw [List.getElem?_eq_getElem (show o.1.length - 1 < o.1.length by omega)] at this
      have := (List.getElem?_eq_some_iff.1 this).1
      omega
  refine ⟨⟨hle, ?_, ?_, ?_, ?_, ?_⟩, ?_⟩
  · intro i hi
    by_cases h1 : i < G
    · simp [h.front i h1]
    · have := (hn (i - G) (by omega)).1
      rwa [show G + (i - G) = i by omega] at this
  · have h1 := P.stop
    simp only [hf] at h1
    split at h1
    · rename_i hc
      have hl : G + o.1.length < bs.length := by
        rcases Bool.or_eq_true _ _ ▸ hc with hc | hc
        · exact hlt _ hc
        · simp at hc; omega
      rw [List.getElem?_eq_getElem hl] at h1
      cases h1
    · rename_i hc; simpa using hc
  · intro i hi
    have := h.top i hi
    simp only [this, Bool.false_or]
    simp
    omega
  · intro i
    rw [P.rest i, hf]
    rw [show G + (i + o.1.length) = G + o.1.length + i by omega]
  · exact P.runs
  · rw [List.take_add]
    congr 1
    apply List.ext_getElem?
    intro i
    rw [List.getElem?_take]
    split
    · rename_i hi
      rw [List.getElem?_drop, (hn i hi).2]
    · rename_i hi
      exact List.getElem?_eq_none (by omega)

theorem RowSt.full {bs : List UInt8} {hs : Nat → Bool} {G : Nat} {l : List Bn} (h : RowSt bs hs G l) (hall : ∀ i, i < bs.length → hs i = true) : G = bs.length ∧ l = [] := by
  have hG : G = bs.length := by
    have := h.hle
    refine Decidable.byContradiction fun hc => ?_
    have h1 := hall G (by omega)
    rw [h.gap] at h1
    cases h1
  refine ⟨hG, ?_⟩
  cases l with
  | nil => rfl
  | cons r l =>
    exfalso
    have hp := h.runs.pos r (by simp)
    have h1 := gets_top h.runs.toRises (r := r) (by simp) (Nat.le_refl _) (by omega)
    obtain ⟨v, hv⟩ := get1_some (r := r) (i := r.1) (Nat.le_refl _) (by omega)
    rw [hv, h.got, h.top _ (by omega)] at h1
    simp at h1

theorem RowSt.congr {bs : List UInt8} {hs hs' : Nat → Bool} {G : Nat} {l : List Bn} (h : RowSt bs hs G l) (he : ∀ i, hs' i = hs i) : RowSt bs hs' G l := by
  have : hs' = hs := funext he
  rwa [this]

end Go.Proofs.Ytodedpmedkgkmaa

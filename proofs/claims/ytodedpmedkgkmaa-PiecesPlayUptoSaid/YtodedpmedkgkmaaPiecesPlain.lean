/-
  ring.Pieces: the plain law of runs that rise and do not touch. No program.
-/
import Derived.Test.YtodedpmedkgkmaaLay
set_option linter.unusedVariables false
set_option linter.unusedSimpArgs false
namespace Go.Proofs.Ytodedpmedkgkmaa
open Go.RowKit

/-- a run's byte at a place -/
def get1 (r : Bn) (i : Nat) : Option UInt8 := if r.1 ≤ i then r.2[i - r.1]? else none
/-- the byte of runs at a place -/
def gets : List Bn → Nat → Option UInt8
  | [], _ => none
  | r :: rs, i => (get1 r i).or (gets rs i)

structure Rises (rs : List Bn) : Prop where
  up : rs.Pairwise fun r r' => r.1 + r.2.length < r'.1
  pos : ∀ r ∈ rs, 0 < r.2.length

theorem get1_none {r : Bn} {i : Nat} (h : i < r.1 ∨ r.1 + r.2.length ≤ i) : get1 r i = none := by
  unfold get1
  split
  · rw [List.getElem?_eq_none (by omega)]
  · rfl

theorem get1_some {r : Bn} {i : Nat} (h1 : r.1 ≤ i) (h2 : i < r.1 + r.2.length) : ∃ v, get1 r i = some v := by
  unfold get1
  rw [if_pos h1, List.getElem?_eq_getElem (by omega)]
  exact ⟨_, rfl⟩

theorem gets_append (a b : List Bn) (i : Nat) : gets (a ++ b) i = (gets a i).or (gets b i) := by
  induction a with
  | nil => simp [gets]
  | cons r a ih => simp [gets, ih, Option.or_assoc]

theorem gets_one (r : Bn) (i : Nat) : gets [r] i = get1 r i := by simp [gets]

theorem gets_none {rs : List Bn} {i : Nat} (h : ∀ r ∈ rs, i < r.1 ∨ r.1 + r.2.length ≤ i) : gets rs i = none := by
  induction rs with
  | nil => rfl
  | cons r rs ih => simp only [gets]; rw [get1_none (h r (by simp)), ih (fun x hx => h x (by simp [hx]))]; rfl

theorem getElem?_splice {L cs : List UInt8} {off : Nat} (hf : off + cs.length ≤ L.length) (j : Nat) :
    (splice L off cs)[j]? = if off ≤ j ∧ j < off + cs.length then cs[j - off]? else L[j]? := by
  unfold splice
  split
  · rw [List.getElem?_append_right (by simp; omega), List.getElem?_append_left (by simp; omega)]
    congr 1
    simp; omega
  · rcases Nat.lt_or_ge j off with h1 | h1
    · rw [List.getElem?_append_left (by simp; omega), List.getElem?_take, if_pos h1]
    · rw [List.getElem?_append_right (by simp; omega), List.getElem?_append_right (by simp; omega), List.getElem?_drop]
      congr 1
      simp; omega

/-- two that touch, merged: where both have bytes the second one's stay -/
theorem get1_merged {x y : Bn} (h1 : x.1 ≤ y.1 + y.2.length) (h2 : y.1 ≤ x.1 + x.2.length) (i : Nat) :
    get1 (min x.1 y.1, mergedTo x.1 x.2 y.1 y.2) i = (get1 y i).or (get1 x i) := by
  have hl := mergedTo_len x.1 x.2 y.1 y.2
  have e1 : x.1 - min x.1 y.1 + x.2.length ≤ (List.replicate (max (x.1 + x.2.length) (y.1 + y.2.length) - min x.1 y.1) (0 : UInt8)).length := by simp; omega
  have e2 : y.1 - min x.1 y.1 + y.2.length ≤ (splice (List.replicate (max (x.1 + x.2.length) (y.1 + y.2.length) - min x.1 y.1) (0 : UInt8)) (x.1 - min x.1 y.1) x.2).length := by
    rw [length_splice' e1]; simp; omega
  by_cases hi : min x.1 y.1 ≤ i ∧ i < max (x.1 + x.2.length) (y.1 + y.2.length)
  · have e0 : get1 (min x.1 y.1, mergedTo x.1 x.2 y.1 y.2) i = (mergedTo x.1 x.2 y.1 y.2)[i - min x.1 y.1]? := by unfold get1; rw [if_pos hi.1]
    rw [e0]
    unfold mergedTo
    rw [getElem?_splice e2, getElem?_splice e1]
    by_cases hy : y.1 ≤ i ∧ i < y.1 + y.2.length
    · rw [if_pos (by omega)]
      unfold get1
      rw [if_pos hy.1, show i - min x.1 y.1 - (y.1 - min x.1 y.1) = i - y.1 by omega, List.getElem?_eq_getElem (by omega)]
      rfl
    · rw [if_neg (by omega), get1_none (r := y) (by omega)]
      by_cases hx : x.1 ≤ i ∧ i < x.1 + x.2.length
      · rw [if_pos (by omega)]
        unfold get1
        rw [if_pos hx.1, show i - min x.1 y.1 - (x.1 - min x.1 y.1) = i - x.1 by omega]
        rfl
      · omega
  · rw [get1_none (r := (min x.1 y.1, mergedTo x.1 x.2 y.1 y.2)) (by simp only [hl]; omega), get1_none (r := y) (by omega), get1_none (r := x) (by omega)]
    rfl

/-- where lay stands, plainly -/
structure LayOk (done : List Bn) (x0 : Bn) (s : LaySt) (rest : List Bn) : Prop where
  rises : Rises (if s.laid then s.acc else s.acc ++ [s.x])
  got : ∀ i, gets (if s.laid then s.acc else s.acc ++ [s.x]) i = (gets done i).or (get1 x0 i)
  ahead : ∀ r ∈ s.acc, ∀ y ∈ rest, r.1 + r.2.length < y.1
  done_lt : ∀ r ∈ done, ∀ y ∈ rest, r.1 + r.2.length < y.1
  laid_lt : s.laid = true → ∀ y ∈ rest, s.x.1 + s.x.2.length < y.1

theorem rises_snoc {l : List Bn} {y : Bn} (h : Rises l) (hy : 0 < y.2.length) (hl : ∀ r ∈ l, r.1 + r.2.length < y.1) : Rises (l ++ [y]) :=
  ⟨List.pairwise_append.2 ⟨h.up, List.pairwise_singleton _ _, fun a ha b hb => by simp at hb; subst hb; exact hl a ha⟩, fun r hr => (List.mem_append.1 hr).elim (h.pos r) (fun e => by simp at e; subst e; exact hy)⟩

theorem rises_left {a b : List Bn} (h : Rises (a ++ b)) : Rises a := ⟨(List.pairwise_append.1 h.up).1, fun r hr => h.pos r (by simp [hr])⟩
theorem rises_right {a b : List Bn} (h : Rises (a ++ b)) : Rises b := ⟨(List.pairwise_append.1 h.up).2.1, fun r hr => h.pos r (by simp [hr])⟩
theorem rises_lt {a : List Bn} {x : Bn} (h : Rises (a ++ [x])) : ∀ r ∈ a, r.1 + r.2.length < x.1 := fun r hr => (List.pairwise_append.1 h.up).2.2 r hr x (by simp)

theorem layStep_ok {done : List Bn} {x0 : Bn} {s : LaySt} {y : Bn} {rest : List Bn} (h : LayOk done x0 s (y :: rest)) (hr : Rises (y :: rest)) : LayOk (done ++ [y]) x0 (layStep s y) rest := by
  obtain ⟨acc, laid, x⟩ := s
  obtain ⟨hri, hg, ha, hd, hl⟩ := h
  simp only [] at hri hg ha hl
  have hy := hr.pos y (by simp)
  have hyr : ∀ r ∈ rest, y.1 + y.2.length < r.1 := (List.pairwise_cons.1 hr.up).1
  have hd' : ∀ r ∈ done ++ [y], ∀ z ∈ rest, r.1 + r.2.length < z.1 := by
    intro r hr z hz
    rcases List.mem_append.1 hr with hr | hr
    · exact hd r hr z (by simp [hz])
    · simp at hr; subst hr; exact hyr z hz
  have ha1 : ∀ r ∈ acc, r.1 + r.2.length < y.1 := fun r hr => ha r hr y (by simp)
  have hac : ∀ i, y.1 ≤ i → gets acc i = none := fun i hi => gets_none fun r hr => .inr (by have := ha1 r hr; omega)
  have hdn : ∀ i, y.1 ≤ i → gets done i = none := fun i hi => gets_none fun r hr => .inr (by have := hd r hr y (by simp); omega)
  have haa : ∀ r ∈ acc ++ [y], ∀ z ∈ rest, r.1 + r.2.length < z.1 := by
    intro r hr z hz
    rcases List.mem_append.1 hr with hr | hr
    · exact ha r hr z (by simp [hz])
    · simp at hr; subst hr; exact hyr z hz
  unfold layStep
  simp only []
  by_cases hA : y.1 + y.2.length < x.1
  · rw [if_pos hA]
    cases laid
    · simp only [Bool.false_eq_true, if_false] at hri hg hl
      have hx := rises_lt hri
      refine ⟨?_, ?_, haa, hd', by simp⟩
      · simp only [Bool.false_eq_true, if_false]
        refine rises_snoc (rises_snoc (rises_left hri) hy ha1) ((rises_right hri).pos x (by simp)) ?_
        intro r hr
        rcases List.mem_append.1 hr with hr | hr
        · exact hx r hr
        · simp at hr; subst hr; exact hA
      · intro i
        have g := hg i
        simp only [Bool.false_eq_true, if_false, gets_append, gets_one] at g ⊢
        by_cases hi : y.1 ≤ i
        · rw [hac i hi, hdn i hi] at g
          rw [hac i hi, hdn i hi]
          simp only [Option.none_or] at g ⊢
          rw [g]
        · rw [get1_none (r := y) (by omega)]
          simpa using g
    · have := hl rfl y (by simp)
      omega
  · rw [if_neg hA]
    by_cases hB : x.1 + x.2.length < y.1
    · rw [if_pos hB]
      have hz : ∀ z ∈ rest, x.1 + x.2.length < z.1 := fun z hz => by have := hyr z hz; omega
      cases laid
      · simp only [Bool.false_eq_true, if_false] at hri hg hl
        have hx := rises_lt hri
        refine ⟨?_, ?_, ?_, hd', fun _ => hz⟩
        · simp only [Bool.false_eq_true, if_false, if_true]
          rw [show acc ++ [x, y] = acc ++ [x] ++ [y] by simp]
          refine rises_snoc hri hy ?_
          intro r hr
          rcases List.mem_append.1 hr with hr | hr
          · exact ha1 r hr
          · simp at hr; subst hr; exact hB
        · intro i
          have g := hg i
          simp only [Bool.false_eq_true, if_false, if_true, gets_append, gets_one, gets, Option.or_none] at g ⊢
          rw [← Option.or_assoc, g]
          by_cases hi : y.1 ≤ i
          · rw [hac i hi, hdn i hi, get1_none (r := x) (by omega)] at g
            rw [hdn i hi]
            simp only [Option.none_or, Option.or_none] at g ⊢
            rw [← g]; simp
          · rw [get1_none (r := y) (by omega)]
            simp
        · intro r hr z hzr
          simp only [Bool.false_eq_true, if_false] at hr
          rcases List.mem_append.1 hr with hr | hr
          · exact ha r hr z (by simp [hzr])
          · simp at hr
            rcases hr with rfl | rfl
            · exact hz z hzr
            · exact hyr z hzr
      · simp only [if_true] at hri hg
        refine ⟨?_, ?_, haa, hd', fun _ => hz⟩
        · simp only [if_true]
          exact rises_snoc hri hy ha1
        · intro i
          have g := hg i
          simp only [if_true, gets_append, gets_one] at g ⊢
          rw [g]
          by_cases hi : y.1 ≤ i
          · rw [hac i hi, hdn i hi] at g
            rw [hdn i hi]
            simp only [Option.none_or] at g ⊢
            rw [← g]; simp
          · rw [get1_none (r := y) (by omega)]
            simp
    · rw [if_neg hB]
      cases laid
      · simp only [Bool.false_eq_true, if_false] at hri hg hl
        have hx := rises_lt hri
        have hxp := (rises_right hri).pos x (by simp)
        refine ⟨?_, ?_, fun r hr z hz => ha r hr z (by simp [hz]), hd', by simp⟩
        · simp only [Bool.false_eq_true, if_false]
          refine rises_snoc (rises_left hri) ?_ ?_
          · simp only [mergedTo_len]; omega
          · intro r hr
            have := hx r hr
            have := ha1 r hr
            simp only []
            omega
        · intro i
          have g := hg i
          simp only [Bool.false_eq_true, if_false, gets_append, gets_one] at g ⊢
          rw [get1_merged (by omega) (by omega)]
          by_cases hi : y.1 ≤ i
          · rw [hac i hi, hdn i hi] at g
            rw [hac i hi, hdn i hi]
            simp only [Option.none_or] at g ⊢
            rw [g]
          · rw [get1_none (r := y) (by omega)]
            simpa using g
      · have := hl rfl y (by simp)
        omega

theorem lay_ok {x0 : Bn} (rest : List Bn) : ∀ (done : List Bn) (s : LaySt), LayOk done x0 s rest → Rises rest → LayOk (done ++ rest) x0 (rest.foldl layStep s) [] := by
  induction rest with
  | nil => intro done s h _; simpa using h
  | cons y rest ih =>
    intro done s h hr
    have := ih (done ++ [y]) (layStep s y) (layStep_ok h hr) (rises_right (a := [y]) hr)
    simpa using this

/-- lay: the runs rise, and what was there stays -/
theorem layTo_ok {rs : List Bn} {x : Bn} (h : Rises rs) (hx : 0 < x.2.length) : Rises (layTo rs x) ∧ ∀ i, gets (layTo rs x) i = (gets rs i).or (get1 x i) := by
  have h0 : LayOk [] x ⟨[], false, x⟩ rs := by
    refine ⟨⟨by simp, by simpa using hx⟩, fun i => by simp [gets], by simp, by simp, by simp⟩
  have := lay_ok rs [] ⟨[], false, x⟩ h0 h
  have e : layTo rs x = if (rs.foldl layStep ⟨[], false, x⟩).laid then (rs.foldl layStep ⟨[], false, x⟩).acc else (rs.foldl layStep ⟨[], false, x⟩).acc ++ [(rs.foldl layStep ⟨[], false, x⟩).x] := rfl
  rw [e]
  exact ⟨this.rises, by simpa using this.got⟩

/-- what Put lays: how far ahead, and the bytes -/
def putRun (ahead : Int) (b : List UInt8) : Bn :=
  let b1 := if ahead < 0 then b.drop (-ahead).toNat else b
  (ahead.toNat, b1.take (1048560 - ahead.toNat))

/-- what Put answers, and what stays -/
def putOut (rs : List Bn) : List UInt8 × List Bn :=
  match rs with
  | [] => ([], [])
  | r :: l => if 0 < r.1 then ([], r :: l) else (r.2, l.map fun y => (y.1 - r.2.length, y.2))

def putTo (rs : List Bn) (ahead : Int) (b : List UInt8) : List UInt8 × List Bn :=
  if ahead < -1048560 ∨ 1048560 < ahead then ([], rs)
  else putOut (if (putRun ahead b).2 = [] then rs else layTo rs (putRun ahead b))

/-- all behind 0, within bounds -/
structure RunsOk (rs : List Bn) : Prop extends Rises rs where
  first : ∀ r ∈ rs, 0 < r.1
  top : ∀ r ∈ rs, r.1 + r.2.length ≤ 1048560

theorem gets_top {rs : List Bn} {r : Bn} (h : Rises rs) (hr : r ∈ rs) {i : Nat} (h1 : r.1 ≤ i) (h2 : i < r.1 + r.2.length) : gets rs i = get1 r i := by
  induction rs with
  | nil => simp at hr
  | cons a rs ih =>
    have ha := (List.pairwise_cons.1 h.up).1
    simp only [gets]
    rcases List.mem_cons.1 hr with rfl | hr
    · obtain ⟨v, hv⟩ := get1_some h1 h2
      rw [hv]; rfl
    · have := ha r hr
      rw [get1_none (r := a) (by omega), Option.none_or]
      exact ih (rises_right (a := [a]) h) hr

theorem gets_bound {rs : List Bn} {n : Nat} (h : Rises rs) (hn : ∀ i, n ≤ i → gets rs i = none) : ∀ r ∈ rs, r.1 + r.2.length ≤ n := by
  intro r hr
  have hp := h.pos r hr
  refine Decidable.byContradiction fun hc => ?_
  have e := gets_top h hr (i := r.1 + r.2.length - 1) (by omega) (by omega)
  rw [hn _ (by omega)] at e
  obtain ⟨v, hv⟩ := get1_some (r := r) (i := r.1 + r.2.length - 1) (by omega) (by omega)
  rw [hv] at e
  simp at e

/-- the byte that Put brings to a place -/
def brings (ahead : Int) (b : List UInt8) (i : Nat) : Option UInt8 := if i < 1048560 ∧ ahead ≤ i then b[((i : Int) - ahead).toNat]? else none

theorem get1_putRun (ahead : Int) (b : List UInt8) (i : Nat) : get1 (putRun ahead b) i = brings ahead b i := by
  unfold get1 putRun brings
  simp only []
  rw [List.getElem?_take]
  by_cases hn : ahead < 0
  · rw [if_pos hn, List.getElem?_drop]
    by_cases hi : i < 1048560
    · rw [if_pos (by omega), if_pos (by omega), if_pos (by omega)]
      congr 1
      omega
    · rw [if_neg (show ¬ (i < 1048560 ∧ ahead ≤ i) by omega)]
      split
      · rw [if_neg (by omega)]
      · rfl
  · rw [if_neg hn]
    by_cases hi : i < 1048560 ∧ ahead ≤ i
    · rw [if_pos hi, if_pos (by omega), if_pos (by omega)]
      congr 1
      omega
    · rw [if_neg hi]
      split
      · rw [if_neg (by omega)]
      · rfl

theorem gets_shift {l : List Bn} {n : Nat} (h : ∀ r ∈ l, n ≤ r.1) (i : Nat) : gets (l.map fun y => (y.1 - n, y.2)) i = gets l (i + n) := by
  induction l with
  | nil => rfl
  | cons r l ih =>
    simp only [List.map_cons, gets]
    rw [ih (fun x hx => h x (by simp [hx]))]
    congr 1
    have := h r (by simp)
    unfold get1
    simp only []
    by_cases hi : r.1 ≤ i + n
    · rw [if_pos (by omega), if_pos hi]; congr 1; omega
    · rw [if_neg (by omega), if_neg hi]

structure PutOk (f : Nat → Option UInt8) (o : List UInt8 × List Bn) : Prop where
  runs : RunsOk o.2
  out : ∀ i, i < o.1.length → f i = o.1[i]?
  stop : f o.1.length = none
  rest : ∀ i, gets o.2 i = f (i + o.1.length)

theorem putOut_ok {rs : List Bn} (h : Rises rs) (ht : ∀ r ∈ rs, r.1 + r.2.length ≤ 1048560) : PutOk (gets rs) (putOut rs) := by
  cases rs with
  | nil => exact ⟨⟨h, by simp [putOut], by simp [putOut]⟩, by simp [putOut], rfl, by simp [putOut]⟩
  | cons r l =>
    have hl := (List.pairwise_cons.1 h.up).1
    have hr := rises_right (a := [r]) h
    unfold putOut
    simp only []
    by_cases h0 : 0 < r.1
    · rw [if_pos h0]
      refine ⟨⟨h, ?_, ht⟩, by simp, ?_, by simp⟩
      · intro y hy
        rcases List.mem_cons.1 hy with rfl | hy
        · exact h0
        · have := hl y hy; omega
      · refine gets_none fun y hy => .inl ?_
        rcases List.mem_cons.1 hy with rfl | hy
        · exact h0
        · have := hl y hy; simp; omega
    · rw [if_neg h0]
      have hge : ∀ y ∈ l, r.2.length < y.1 := fun y hy => by have := hl y hy; omega
      refine ⟨⟨⟨?_, ?_⟩, ?_, ?_⟩, ?_, ?_, ?_⟩
      · rw [List.pairwise_map]
        refine List.Pairwise.imp_of_mem ?_ hr.up
        intro a b ha hb hab
        have := hge a ha
        have := hge b hb
        simp only []
        omega
      · intro y hy
        obtain ⟨z, hz, rfl⟩ := List.mem_map.1 hy
        exact hr.pos z hz
      · intro y hy
        obtain ⟨z, hz, rfl⟩ := List.mem_map.1 hy
        have := hge z hz
        simp only []
        omega
      · intro y hy
        obtain ⟨z, hz, rfl⟩ := List.mem_map.1 hy
        have := ht z (by simp [hz])
        simp only []
        omega
      · intro i hi
        simp only [] at hi
        simp only [gets]
        rw [gets_none (fun y hy => .inl (by have := hge y hy; omega)), Option.or_none]
        unfold get1
        rw [if_pos (by omega)]
        congr 1
        omega
      · simp only [gets]
        rw [gets_none (fun y hy => .inl (by have := hge y hy; omega)), Option.or_none]
        exact get1_none (.inr (by omega))
      · intro i
        simp only [gets]
        rw [gets_shift (fun y hy => by have := hge y hy; omega), get1_none (r := r) (.inr (by omega)), Option.none_or]

theorem layRun_ok {rs : List Bn} (h : RunsOk rs) (ahead : Int) (b : List UInt8) (hn : (putRun ahead b).2 ≠ []) :
    Rises (layTo rs (putRun ahead b)) ∧ (∀ i, gets (layTo rs (putRun ahead b)) i = (gets rs i).or (brings ahead b i)) ∧ ∀ r ∈ layTo rs (putRun ahead b), r.1 + r.2.length ≤ 1048560 := by
  obtain ⟨h1, h2⟩ := layTo_ok h.toRises (x := putRun ahead b) (List.length_pos_iff.2 hn)
  refine ⟨h1, fun i => by rw [h2, get1_putRun], gets_bound h1 fun i hi => ?_⟩
  rw [h2, get1_putRun, gets_none (fun r hr => .inr (by have := h.top r hr; omega))]
  unfold brings
  rw [if_neg (by omega)]
  rfl

theorem putTo_ok {rs : List Bn} (h : RunsOk rs) (ahead : Int) (b : List UInt8) (ha : ¬ (ahead < -1048560 ∨ 1048560 < ahead)) :
    PutOk (fun i => (gets rs i).or (brings ahead b i)) (putTo rs ahead b) := by
  unfold putTo
  rw [if_neg ha]
  by_cases hn : (putRun ahead b).2 = []
  · rw [if_pos hn]
    have e : (fun i => (gets rs i).or (brings ahead b i)) = gets rs := by
      funext i
      rw [← get1_putRun, get1_none (by rw [hn]; simp; omega), Option.or_none]
    rw [e]
    exact putOut_ok h.toRises h.top
  · rw [if_neg hn]
    obtain ⟨h1, h2, h3⟩ := layRun_ok h ahead b hn
    have := putOut_ok h1 h3
    rwa [show gets (layTo rs (putRun ahead b)) = fun i => (gets rs i).or (brings ahead b i) from funext h2] at this

theorem putTo_runs {rs : List Bn} (h : RunsOk rs) (ahead : Int) (b : List UInt8) : RunsOk (putTo rs ahead b).2 := by
  by_cases ha : ahead < -1048560 ∨ 1048560 < ahead
  · unfold putTo; rw [if_pos ha]; exact h
  · exact (putTo_ok h ahead b ha).runs

end Go.Proofs.Ytodedpmedkgkmaa

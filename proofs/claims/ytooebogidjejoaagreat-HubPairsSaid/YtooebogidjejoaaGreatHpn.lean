/-
  HubPairs: what it is given; a call as a whole.
-/
import Derived.Test.YtooebogidjejoaaGreatHpm
import Derived.Test.YtooebogidjejoaaGreatRows
import Derived.ChangeSlices
set_option linter.unusedVariables false
set_option linter.unusedSimpArgs false
namespace Go.Proofs.YtooebogidjejoaaGreat
open Go Go.RowKit Go.ChangeShapes Go.WideShapes

/-! the letters of what it is given -/
def codeA (x : Option Addr) (j : Nat) : Int := match x with
  | none => 0
  | some a => if j = 0 then a.block else if j = 1 then a.off else if j = 2 then (match a.spot with | none => 1 | some n => n + 2) else 0
abbrev RowF : Type := RowD × Option (Option Addr × Nat × Nat)
/-- where it stands, its capacity -/
def codeB (x : Option Addr × Nat × Nat) (j : Nat) : Int := if j = 3 then x.2.2 else codeA x.1 j
def rhoX (q : Option Addr) (n c : Nat) (F : Nat → RowF) : Nat → Int := fun k =>
  if k < 32 then 0
  else if k < 64 then (if 33 ≤ k ∧ k - 33 < n then (match (F (k - 33)).2 with | none => ((F (k - 33)).1.n : Int) | some x => (x.2.1 : Int)) else 0)
  else if k < 300 then 0
  else if k < 308 then adsG [(q, c), (some ⟨n, 0, none⟩, 0)] ((k - 300) / 4) ((k - 300) % 4)
  else if 632 ≤ k ∧ k < 756 then (if (k - 632) / 4 < n then (match (F ((k - 632) / 4)).2 with | none => (F ((k - 632) / 4)).1.at ((k - 632) % 4) | some x => codeB x ((k - 632) % 4)) else 0)
  else if k < 1000 then 0
  else (if 33 ≤ (k - 1000) % 64 ∧ (k - 1000) % 64 - 33 < n then (match (F ((k - 1000) % 64 - 33)).2 with | none => (F ((k - 1000) % 64 - 33)).1.zs.getD ((k - 1000) / 64) 0 | some _ => 0) else 0)
section
variable {q : Option Addr} {n c : Nat} {F : Nat → RowF}
theorem X_len {i : Nat} (hi : i < n) (hn : n ≤ 30) : rhoX q n c F (33 + i) = match (F i).2 with | none => ((F i).1.n : Int) | some x => (x.2.1 : Int) := by
  unfold rhoX
  rw [if_neg (by omega), if_pos (by omega), show 33 + i - 33 = i by omega, if_pos ⟨by omega, hi⟩]
theorem X_f {i j : Nat} (hi : i < n) (hn : n ≤ 30) (hj : j < 4) : rhoX q n c F (500 + 4 * (33 + i) + j) = match (F i).2 with | none => (F i).1.at j | some x => codeB x j := by
  unfold rhoX
  rw [if_neg (by omega), if_neg (by omega), if_neg (by omega), if_neg (by omega), if_pos (by omega), show (500 + 4 * (33 + i) + j - 632) / 4 = i by omega, show (500 + 4 * (33 + i) + j - 632) % 4 = j by omega, if_pos hi]
theorem X_row {i j : Nat} (hi : i < n) (hn : n ≤ 30) (hF : (F i).2 = none) : rhoX q n c F (rowIx (33 + i) j) = (F i).1.zs.getD j 0 := by
  unfold rhoX rowIx
  rw [if_neg (by omega), if_neg (by omega), if_neg (by omega), if_neg (by omega), if_neg (by omega), if_neg (by omega), show (1000 + 64 * j + (33 + i) - 1000) % 64 = 33 + i by omega, show (1000 + 64 * j + (33 + i) - 1000) / 64 = j by omega, show 33 + i - 33 = i by omega, if_pos ⟨by omega, hi⟩, hF]
theorem X_ads {j k : Nat} (hj : j < 4) (hk : k < 2) : rhoX q n c F (300 + 4 * k + j) = adsG [(q, c), (some ⟨n, 0, none⟩, 0)] k j := by
  unfold rhoX
  rw [if_neg (by omega), if_neg (by omega), if_neg (by omega), if_pos (by omega), show (300 + 4 * k + j - 300) / 4 = k by omega, show (300 + 4 * k + j - 300) % 4 = j by omega]
theorem adrL_code {ρ : Nat → Int} {p : Nat} {x : Option Addr} (h : ∀ j, j < 3 → ρ (p + j) = codeA x j) : adrL ρ p = x := by
  have e0 := h 0 (by omega)
  have e1 := h 1 (by omega)
  have e2 := h 2 (by omega)
  rw [Nat.add_zero] at e0
  cases x with
  | none =>
    unfold adrL
    rw [e2]
    rfl
  | some a =>
    obtain ⟨b, o, sp⟩ := a
    unfold adrL
    rw [e0, e1, e2]
    cases sp with
    | none => rfl
    | some m =>
      simp only [codeA, show ¬ (2 : Nat) = 0 by omega, show ¬ (2 : Nat) = 1 by omega, if_false, if_true]
      have h1 : ¬ ((m : Int) + 2 = 0) := by omega
      have h2 : ¬ ((m : Int) + 2 = 1) := by omega
      rw [if_neg h1, if_neg h2]
      simp
theorem fM (a : Nat) : fMark a = 500 + 4 * a + 3 := by unfold fMark; omega
theorem fC (a : Nat) : fCap a = 500 + 4 * a + 2 := by unfold fCap; omega
theorem fO (a : Nat) : fOff a = 500 + 4 * a + 1 := by unfold fOff; omega
theorem fB (a : Nat) : fBlk a = 500 + 4 * a + 0 := by unfold fBlk; omega
theorem X_fo {W : World} (hn : n ≤ 30) (hF : ∀ i, i < n → (F i).2 = none → (F i).1.Ok W) (hG : ∀ i x, i < n → (F i).2 = some x → x.2.2 ≠ 1) : FoOk (rhoX q n c F) W := by
  intro a h1 h2 h3
  rcases (by omega : a = 32 ∨ (33 ≤ a ∧ a - 33 < n) ∨ (33 ≤ a ∧ n ≤ a - 33)) with rfl | ⟨ha, hi⟩ | ⟨ha, hi⟩
  · exfalso
    have : rhoX q n c F (fMark 32) = 0 := by
      unfold rhoX fMark
      rw [if_neg (by omega), if_neg (by omega), if_neg (by omega), if_neg (by omega), if_neg (by omega), if_pos (by omega)]
    rw [this] at h3
    cases h3
  · obtain ⟨i, rfl⟩ : ∃ i, a = 33 + i := ⟨a - 33, by omega⟩
    have hi : i < n := by omega
    have e3 : rhoX q n c F (fMark (33 + i)) = match (F i).2 with | none => (F i).1.at 3 | some x => codeB x 3 := by rw [fM]; exact X_f (j := 3) hi hn (by omega)
    cases hem : (F i).2 with
    | some x =>
      rw [hem] at e3
      rw [e3] at h3
      exfalso
      have h3 : ((x.2.2 : Nat) : Int) = 1 := h3
      exact hG i x hi hem (by omega)
    | none =>
      have ok := hF i hi hem
      have e2 : rhoX q n c F (fCap (33 + i)) = (F i).1.at 2 := by rw [fC, X_f hi hn (by omega), hem]
      have e1 : rhoX q n c F (fOff (33 + i)) = (F i).1.at 1 := by rw [fO, X_f hi hn (by omega), hem]
      have e0 : rhoX q n c F (fBlk (33 + i)) = (F i).1.at 0 := by rw [fB, X_f hi hn (by omega), hem]
      have el : rhoX q n c F (33 + i) = (F i).1.n := by rw [X_len hi hn, hem]
      rw [e0, e1, e2, el]
      generalize hr : (F i).1 = r at *
      show (0 : Int) ≤ (r.n : Int) ∧ ((r.n : Int)).toNat ≤ ((r.c : Int)).toNat ∧ ∀ j, j < ((r.n : Int)).toNat → ∃ arr T fz, W.heap[((r.b : Int)).toNat]? = some (.cells arr T fz) ∧ arr[((r.o : Int)).toNat + j]? = some (.int .u8 (rowB (rhoX q n c F) (33 + i) j))
      have hle := ok.le
      refine ⟨by omega, by omega, fun j hj => ?_⟩
      have hj : j < r.zs.length := by have := ok.len; omega
      have h5 := ok.cell j hj
      have e5 : rowB (rhoX q n c F) (33 + i) j = r.zs.getD j 0 := by
        unfold rowB
        rw [X_row hi hn hem, hr]
        have hg : r.zs.getD j 0 = r.zs[j] := by simp [List.getD_eq_getElem?_getD, hj]
        have := ok.byte r.zs[j] (List.getElem_mem hj)
        rw [hg]
        exact wrap_in (k := .u8) ⟨by show (0 : Int) ≤ _; omega, by show _ ≤ (255 : Int); omega⟩
      rw [e5]
      show ∃ arr T fz, W.heap[r.b]? = some (.cells arr T fz) ∧ arr[r.o + j]? = some (.int .u8 (r.zs.getD j 0))
      unfold World.cell? at h5
      split at h5
      · rename_i arr T fz hb
        exact ⟨arr, T, fz, hb, h5⟩
      · cases h5
  · exfalso
    have : rhoX q n c F (fMark a) = 0 := by
      unfold rhoX fMark
      rw [if_neg (by omega), if_neg (by omega), if_neg (by omega), if_neg (by omega), if_pos (by omega), if_neg (by omega)]
    rw [this] at h3
    cases h3
theorem X_fsl {W : World} {i : Nat} (hi : i < n) (hn : n ≤ 30) (hem : (F i).2 = none) (ok : (F i).1.Ok W) (φ : List Pl) : conc φ (rhoX q n c F) (.fsl (33 + i) zeroS zeroS (.var (33 + i))) = some (F i).1.v := by
  have e3 : rhoX q n c F (fMark (33 + i)) = (F i).1.at 3 := by rw [fM, X_f hi hn (by omega), hem]
  have e2 : rhoX q n c F (fCap (33 + i)) = (F i).1.at 2 := by rw [fC, X_f hi hn (by omega), hem]
  have e1 : rhoX q n c F (fOff (33 + i)) = (F i).1.at 1 := by rw [fO, X_f hi hn (by omega), hem]
  have e0 : rhoX q n c F (fBlk (33 + i)) = (F i).1.at 0 := by rw [fB, X_f hi hn (by omega), hem]
  have el : rhoX q n c F (33 + i) = (F i).1.n := by rw [X_len hi hn, hem]
  have hle := ok.le
  generalize (F i).1 = r at *
  rw [fsl_mk _ _ _ e3 (by rw [el]; omega) (by rw [el, e2]; show ((r.n : Int)).toNat ≤ ((r.c : Int)).toNat; omega)]
  simp only [SI.ev, zeroS, el, e2, e1, e0]
  show some (Value.slice (some ⟨((r.b : Int)).toNat, ((r.o : Int)).toNat + (if ((r.c : Int)).toNat ≤ ((0 : Int)).toNat then ((0 : Int)).toNat else ((0 : Int)).toNat), none⟩) ((r.n : Int)).toNat (((r.c : Int)).toNat - ((0 : Int)).toNat)) = some (Value.slice (some ⟨r.b, r.o, none⟩) r.n r.c)
  simp
end
/-- what a row may be -/
def RowP (W : World) (v : Value) (x : RowF) : Prop := (x.2 = none ∧ v = x.1.v ∧ x.1.Ok W ∧ x.1.n ≤ 1000) ∨ ∃ (qa : Option Addr) (l k : Nat), x.2 = some (qa, l, k) ∧ v = .slice qa l k ∧ k ≠ 1 ∧ (l = 0 ∨ 1001 ≤ l) ∧ l ≤ 9223372036854775807
theorem rowP_of {W : World} {v : Value} (h : RowIn W v) : ∃ x, RowP W v x := by
  rcases h with rfl | ⟨a, rfl⟩ | ⟨b, o, n, c, zs, rfl, h1, h2, h3, h4, h5⟩
  · exact ⟨(⟨0, 0, 0, 0, []⟩, some (none, 0, 0)), .inr ⟨_, _, _, rfl, rfl, by omega, .inl rfl, by omega⟩⟩
  · exact ⟨(⟨0, 0, 0, 0, []⟩, some (some a, 0, 0)), .inr ⟨_, _, _, rfl, rfl, by omega, .inl rfl, by omega⟩⟩
  · by_cases hn : n ≤ 1000
    · exact ⟨(⟨n, b, o, c, zs⟩, none), .inl ⟨rfl, rfl, ⟨h1, h2, h3, h4, h5⟩, hn⟩⟩
    · exact ⟨(⟨0, 0, 0, 0, []⟩, some (some ⟨b, o, none⟩, n, c)), .inr ⟨_, _, _, rfl, rfl, by omega, .inr (by omega), by omega⟩⟩
/-- the rows: where they stand, how long they are -/
def RowsIn (W : World) (q : Option Addr) (n : Nat) : Prop := ∃ xs : Nat → Value, ∀ i, i < n → (∃ b, q = some b ∧ b.block < W.heap.size ∧ W.cell? (b.add i) = some (xs i)) ∧ RowIn W (xs i)
set_option maxRecDepth 100000 in
theorem law_ok (R : AllH) {W : World} {q : Option Addr} {n c : Nat} (h : RowsIn W q n) (hn : n ≤ 30) : Calls Tryz.prog 3 #[.slice q n c] W fun e w' => e = .returned (.bool true) ∧ Kp [] W w' := by
  obtain ⟨xs, hx⟩ := h
  have hex : ∀ i, ∃ x : RowF, i < n → RowP W (xs i) x := by
    intro i
    by_cases hi : i < n
    · obtain ⟨x, h⟩ := rowP_of (hx i hi).2
      exact ⟨x, fun _ => h⟩
    · exact ⟨(⟨0, 0, 0, 0, []⟩, none), fun h => absurd h hi⟩
  obtain ⟨F, hF⟩ := Classical.axiomOfChoice hex
  have hok : ∀ i, i < n → (F i).2 = none → (F i).1.Ok W ∧ xs i = (F i).1.v := by
    intro i hi he
    rcases hF i hi with ⟨_, h1, h2, _⟩ | ⟨qa, l, k, h1, _⟩
    · exact ⟨h2, h1⟩
    · rw [he] at h1; cases h1
  have hemp : ∀ i qa l k, i < n → (F i).2 = some (qa, l, k) → rhoX q n c F (33 + i) = l ∧ rhoX q n c F (500 + 4 * (33 + i) + 3) = k ∧ adrL (rhoX q n c F) (500 + 4 * (33 + i)) = qa := by
    intro i qa l k hi he
    refine ⟨by rw [X_len hi hn, he], ?_, adrL_code fun j hj => ?_⟩
    · rw [X_f hi hn (by omega), he]
      rfl
    · rw [X_f hi hn (by omega), he]
      show codeB (qa, l, k) j = codeA qa j
      unfold codeB
      rw [if_neg (by omega)]
  have a300 : ∀ j, j < 4 → rhoX q n c F (300 + j) = adsG [(q, c), (some ⟨n, 0, none⟩, 0)] 0 j := fun j hj => by have := X_ads (q := q) (n := n) (c := c) (F := F) (j := j) (k := 0) hj (by omega); rw [show 300 + 4 * 0 + j = 300 + j by omega] at this; exact this
  have h303 : (rhoX q n c F 303).toNat = c := by
    rw [show (303 : Nat) = 300 + 3 from rfl, a300 3 (by omega)]
    cases q <;> rfl
  have hlen : ∀ k, 33 ≤ k → k < 64 → rhoX q n c F k = if k - 33 < n then (match (F (k - 33)).2 with | none => ((F (k - 33)).1.n : Int) | some x => (x.2.1 : Int)) else 0 := by
    intro k h1 h2
    unfold rhoX
    rw [if_neg (by omega), if_pos h2]
    by_cases h : k - 33 < n
    · rw [if_pos ⟨h1, h⟩, if_pos h]
    · rw [if_neg (fun x => h x.2), if_neg h]
  have G : GivenH W (rhoX q n c F) q n c xs := by
    refine ⟨adrL_code fun j hj => ?_, ?_, h303, hn, fun k hk => ?_, fun i hi => (hx i hi).1, fun i hi => ?_, fun k h1 h2 => ?_, fun k h1 h2 => ?_⟩
    · rw [a300 j (by omega)]
      rcases (by omega : j = 0 ∨ j = 1 ∨ j = 2) with rfl | rfl | rfl <;> cases q <;> rfl
    · have := X_ads (q := q) (n := n) (c := c) (F := F) (j := 0) (k := 1) (by omega) (by omega)
      exact this
    · unfold rhoX
      by_cases h : k < 32
      · rw [if_pos h]
      · rw [if_neg h, if_pos (by omega), if_neg (by omega)]
    · rcases hF i hi with ⟨h1, h2, h3, h4⟩ | ⟨qa, l, k, h1, h2, _, h4, _⟩
      · refine .inr ⟨?_, fun φ => by rw [X_fsl hi hn h1 h3, h2]⟩
        rw [X_len hi hn, h1]
        show ((F i).1.n : Int) ≤ 1000
        omega
      · obtain ⟨k1, k2, k3⟩ := hemp i qa l k hi h1
        exact .inl ⟨qa, l, k, h2, k1, k2, k3, h4⟩
    · rw [hlen k h1 h2]
      split
      · rename_i h
        rcases hF (k - 33) h with ⟨e1, _, e3, _⟩ | ⟨qa, l, k', e1, _, _, _, e5⟩
        · rw [e1]
          have := e3.le
          have := e3.mx
          show (0 : Int) ≤ ((F (k - 33)).1.n : Int) ∧ ((F (k - 33)).1.n : Int) ≤ _
          omega
        · rw [e1]
          show (0 : Int) ≤ (l : Int) ∧ (l : Int) ≤ _
          omega
      · omega
    · rw [hlen k (by omega) h2, if_neg (by omega)]
  exact main_okH R G (X_fo hn (fun i hi he => (hok i hi he).1) (fun i x hi he => by
    rcases hF i hi with ⟨h1, _⟩ | ⟨qa, l, k, h1, _, h3, _⟩
    · rw [h1] at he; cases he
    · rw [h1] at he; cases he; exact h3))
theorem open_rows {H : Type} {enc : TypeId × Value → H} {W : World} {fuel : Nat} {v : Value} {x : DataW H × List MemPlace} {t e u : TypeId} (ht : Tryz.prog.underlying t = some (.slice e)) (he : Tryz.prog.underlying e = some (.slice u)) (hu : Tryz.prog.underlying u = some (.int .u8)) (hce : Tryz.prog.cellsOf e = 1) (hcu : Tryz.prog.cellsOf u = 1)
    (h : DataW.trod enc Tryz.prog W 0 (fun _ => true) true fuel t [v] = some x) : ∃ q n c, v = .slice q n c ∧ (n : Int) ≤ 9223372036854775807 ∧ RowsIn W q n := by
  rcases DataW.trod_slice ht h with ⟨h0, rfl⟩ | ⟨a, len, cap, elems, rest, m, _, h0, rfl, _, hl, hm, hlen, hel, hsp, hns⟩
  · cases h0
    exact ⟨_, _, _, rfl, by omega, fun _ => .slice none 0 0, fun i hi => absurd hi (Nat.not_lt_zero _)⟩
  · cases h0
    refine ⟨some a, len, cap, rfl, by unfold maxLen at hm; omega, ?_⟩
    have each : ∀ i, ∃ y : Value, i < len → (W.cell? (a.add i) = some y ∧ RowIn W y) := by
      intro i
      by_cases hi : i < len
      · have h1 := hel i hi
        rw [hce, Nat.mul_one, List.getElem?_eq_getElem (by omega)] at h1
        simp only [Option.bind_eq_some_iff] at h1
        obtain ⟨cs, h2, h3⟩ := h1
        have hcs : ∃ y, cs = [y] := by
          have := (World.cells?_some h2).2.1
          match cs, this with
          | [y], _ => exact ⟨y, rfl⟩
        obtain ⟨y, rfl⟩ := hcs
        exact ⟨y, fun _ => ⟨cell_of_cells?_one h2, open_row he hu hcu h3⟩⟩
      · exact ⟨.slice none 0 0, fun h => absurd h hi⟩
    obtain ⟨xs, hxs⟩ := Classical.axiomOfChoice each
    refine ⟨xs, fun i hi => ⟨⟨a, rfl, ?_, (hxs i hi).1⟩, (hxs i hi).2⟩⟩
    have hc := (hxs i hi).1
    have : (a.add i).block < W.heap.size := by
      rcases Nat.lt_or_ge (a.add i).block W.heap.size with h' | h'
      · exact h'
      · simp [World.cell?, Array.getElem?_eq_none h'] at hc
    rw [adr_block] at this
    exact this
end Go.Proofs.YtooebogidjejoaaGreat

/-
  WorldDatagrams: the letters from round to round; all rounds; a call.
-/
import Derived.Test.YtmifojdpdbjodaaGreatWdl
set_option linter.unusedVariables false
set_option linter.unusedSimpArgs false
namespace Go.Proofs.YtmifojdpdbjodaaGreat
open Go

def lnV (v : Value) : Nat := match v with
  | .slice _ n _ => n
  | _ => 0
def smL (xs : Nat → Value) : Nat → Nat
  | 0 => 0
  | i + 1 => smL xs i + lnV (xs i)
theorem smL_mono (xs : Nat → Value) {i n : Nat} (h : i ≤ n) : smL xs i ≤ smL xs n := by
  induction n with
  | zero => obtain rfl : i = 0 := by omega
            exact Nat.le_refl _
  | succ n ih =>
    rcases Nat.lt_or_ge n i with hn | hn
    · obtain rfl : i = n + 1 := by omega
      exact Nat.le_refl _
    · have := ih hn
      simp only [smL]
      omega
/-- how a datagram is told: none, nothing at an address, a row -/
def RowX (ρ : Nat → Int) (a : Nat) (v : Value) : Prop :=
  (v = .slice none 0 0 ∧ ρ a = 0 ∧ ρ (500 + 4 * a + 3) = 0 ∧ adrL ρ (500 + 4 * a) = none) ∨ (∃ qa, v = .slice (some qa) 0 0 ∧ ρ a = 0 ∧ ρ (500 + 4 * a + 3) = 0 ∧ adrL ρ (500 + 4 * a) = some qa) ∨
  ∃ L : Nat, L ≤ 1048576 ∧ ρ a = L ∧ lnV v = L ∧ ∀ φ, conc φ ρ (.fsl a zeroS zeroS (.var a)) = some v
structure GivenW (W : World) (ρ0 : Nat → Int) (q : Option Addr) (n c : Nat) (xs : Nat → Value) : Prop where
  adr : adrL ρ0 300 = q
  len : ρ0 304 = n
  cap : (ρ0 303).toNat = c
  le : n ≤ 10
  port : 1 ≤ ρ0 1 ∧ ρ0 1 ≤ 65535
  cell : ∀ i, i < n → ∃ b, q = some b ∧ b.block < W.heap.size ∧ W.cell? (b.add i) = some (xs i)
  row : ∀ i, i < n → RowX ρ0 (33 + i) (xs i)
  top : ρ0 (33 + n) = 0
/-- the letters where a round begins -/
structure LetW (ρ ρ0 : Nat → Int) (i : Nat) : Prop where
  p1 : 1 ≤ ρ 1 ∧ ρ 1 ≤ 65535
  i30 : ρ 30 = i
  nm : 1 ≤ i → (0 ≤ ρ 2 ∧ ρ 2 ≤ 2 * i) ∧ (0 ≤ ρ 3 ∧ ρ 3 ≤ 4294967295) ∧ ∀ k, 4 ≤ k → k ≤ 9 → 0 ≤ ρ k ∧ ρ k ≤ 30 * i
  hi : ∀ k, 64 ≤ k → k < 600 → ρ k = ρ0 k
  rw : ∀ a, 33 ≤ a → a < 64 → RowEq ρ ρ0 a a
/-- the letters of a round -/
structure Aft (ρ1 ρ0 : Nat → Int) (i : Nat) (v : Int) : Prop where
  p1 : 1 ≤ ρ1 1 ∧ ρ1 1 ≤ 65535
  i30 : ρ1 30 = i
  n2 : 0 ≤ ρ1 2 ∧ ρ1 2 ≤ 2 * i
  d3 : 0 ≤ ρ1 3 ∧ ρ1 3 ≤ 4294967295
  cn : ∀ k, 4 ≤ k → k ≤ 9 → 0 ≤ ρ1 k ∧ ρ1 k ≤ 30 * i
  zs : ρ1 0 = 0 ∧ (∀ k, 10 ≤ k → k ≤ 28 → ρ1 k = 0) ∧ ρ1 31 = 0
  v29 : ρ1 29 = v
  hi : ∀ k, 64 ≤ k → k < 600 → ρ1 k = ρ0 k
  r32 : RowEq ρ1 ρ0 32 (33 + i)
  rw : ∀ a, 33 ≤ a → a < 64 → RowEq ρ1 ρ0 a a
theorem rRow_hi {l : List (Nat × SI)} {i : Nat} {v : Int} (ρ : Nat → Int) {k : Nat} (h1 : 64 ≤ k) (h2 : k < 600) : (rRow l i v).rho ρ k = ρ k := Ren.rho_hi ⟨h1, by omega⟩
theorem rRow_rows {l : List (Nat × SI)} {i : Nat} {v : Int} {ρ ρ0 : Nat → Int} (hi : i ≤ 30) (h : ∀ a, 33 ≤ a → a < 64 → RowEq ρ ρ0 a a) : RowEq ((rRow l i v).rho ρ) ρ0 32 (33 + i) ∧ ∀ a, 33 ≤ a → a < 64 → RowEq ((rRow l i v).rho ρ) ρ0 a a := by
  constructor
  · have e := (rRow l i v).rowEq ρ (a := 32) ⟨by omega, by omega⟩
    rw [rRow_row (by omega) ⟨by omega, by omega⟩, if_pos rfl] at e
    exact e.trans (h (33 + i) (by omega) (by omega))
  · intro a h1 h2
    have e := (rRow l i v).rowEq ρ (a := a) ⟨by omega, h2⟩
    rw [rRow_row (by omega) ⟨by omega, h2⟩, if_neg (by omega)] at e
    exact e.trans (h a h1 h2)
theorem aft_W {ρ ρ0 : Nat → Int} {i : Nat} {v : Int} (h : LetW ρ ρ0 i) (h1 : 1 ≤ i) (h9 : i ≤ 30) : Aft ((rRow lW i v).rho ρ) ρ0 i v := by
  obtain ⟨g2, g3, g4⟩ := h.nm h1
  obtain ⟨r1, r2⟩ := rRow_rows (l := lW) (v := v) h9 h.rw
  refine ⟨?_, ?_, ?_, ?_, fun k hk1 hk2 => ?_, ⟨rfl, fun k hk1 hk2 => ?_, rfl⟩, rfl, fun k h1 h2 => (rRow_hi ρ h1 h2).trans (h.hi k h1 h2), r1, r2⟩
  · exact h.p1
  · exact h.i30
  · exact g2
  · exact g3
  · have e : (rRow lW i v).rho ρ k = ρ k := by
      rcases (by omega : k = 4 ∨ k = 5 ∨ k = 6 ∨ k = 7 ∨ k = 8 ∨ k = 9) with rfl | rfl | rfl | rfl | rfl | rfl <;> rfl
    rw [e]
    exact g4 k hk1 hk2
  · rcases (by omega : k = 10 ∨ k = 11 ∨ k = 12 ∨ k = 13 ∨ k = 14 ∨ k = 15 ∨ k = 16 ∨ k = 17 ∨ k = 18 ∨ k = 19 ∨ k = 20 ∨ k = 21 ∨ k = 22 ∨ k = 23 ∨ k = 24 ∨ k = 25 ∨ k = 26 ∨ k = 27 ∨ k = 28) with rfl | rfl | rfl | rfl | rfl | rfl | rfl | rfl | rfl | rfl | rfl | rfl | rfl | rfl | rfl | rfl | rfl | rfl | rfl <;> rfl
theorem aft_I {ρ ρ0 : Nat → Int} {v : Int} (h : LetW ρ ρ0 0) : Aft ((rRow lI 0 v).rho ρ) ρ0 0 v := by
  obtain ⟨r1, r2⟩ := rRow_rows (l := lI) (v := v) (i := 0) (by omega) h.rw
  have z : ∀ k, (2 ≤ k ∧ k ≤ 28) → (rRow lI 0 v).rho ρ k = 0 := by
    intro k hk
    rcases (by omega : k = 2 ∨ k = 3 ∨ k = 4 ∨ k = 5 ∨ k = 6 ∨ k = 7 ∨ k = 8 ∨ k = 9 ∨ k = 10 ∨ k = 11 ∨ k = 12 ∨ k = 13 ∨ k = 14 ∨ k = 15 ∨ k = 16 ∨ k = 17 ∨ k = 18 ∨ k = 19 ∨ k = 20 ∨ k = 21 ∨ k = 22 ∨ k = 23 ∨ k = 24 ∨ k = 25 ∨ k = 26 ∨ k = 27 ∨ k = 28) with rfl | rfl | rfl | rfl | rfl | rfl | rfl | rfl | rfl | rfl | rfl | rfl | rfl | rfl | rfl | rfl | rfl | rfl | rfl | rfl | rfl | rfl | rfl | rfl | rfl | rfl | rfl <;> rfl
  refine ⟨h.p1, h.i30, ?_, ?_, fun k hk1 hk2 => ?_, ⟨rfl, fun k hk1 hk2 => z k (by omega), rfl⟩, rfl, fun k h1 h2 => (rRow_hi ρ h1 h2).trans (h.hi k h1 h2), r1, r2⟩
  · rw [z 2 (by omega)]; omega
  · rw [z 3 (by omega)]; omega
  · rw [z k (by omega)]; omega
theorem rgW_ok {ρ1 ρ0 : Nat → Int} {i : Nat} {v i0 i1 lo hi pd : Int} (A : Aft ρ1 ρ0 i v) (hi9 : i ≤ 10) (h0 : i0 ≤ i ∧ (i : Int) ≤ i1) (hv : 0 ≤ v ∧ v ≤ pd) (hl : lo ≤ ρ1 32 ∧ ρ1 32 ≤ hi) : RgOk ρ1 (rgW i0 i1 lo hi pd) := by
  have n2 := A.n2
  have d3 := A.d3
  have z := A.zs
  unfold rgW
  refine rgOk_cons (by rw [z.1]; omega) (rgOk_cons A.p1 (rgOk_cons (by show 0 ≤ ρ1 2 ∧ ρ1 2 ≤ 60; omega) (rgOk_cons d3 ?_)))
  refine rgOk_cons (by have := A.cn 4 (by omega) (by omega); show 0 ≤ ρ1 4 ∧ ρ1 4 ≤ 400; omega) ?_
  refine rgOk_cons (by have := A.cn 5 (by omega) (by omega); show 0 ≤ ρ1 5 ∧ ρ1 5 ≤ 400; omega) ?_
  refine rgOk_cons (by have := A.cn 6 (by omega) (by omega); show 0 ≤ ρ1 6 ∧ ρ1 6 ≤ 400; omega) ?_
  refine rgOk_cons (by have := A.cn 7 (by omega) (by omega); show 0 ≤ ρ1 7 ∧ ρ1 7 ≤ 400; omega) ?_
  refine rgOk_cons (by have := A.cn 8 (by omega) (by omega); show 0 ≤ ρ1 8 ∧ ρ1 8 ≤ 400; omega) ?_
  refine rgOk_cons (by have := A.cn 9 (by omega) (by omega); show 0 ≤ ρ1 9 ∧ ρ1 9 ≤ 400; omega) ?_
  have e : ∀ k, 10 ≤ k → k ≤ 28 → (0 : Int) ≤ ρ1 k ∧ ρ1 k ≤ 0 := fun k h1 h2 => by rw [z.2.1 k h1 h2]; omega
  iterate 19 refine rgOk_cons (e _ (by decide) (by decide)) ?_
  refine rgOk_cons (by show 0 ≤ ρ1 29 ∧ ρ1 29 ≤ pd; rw [A.v29]; exact hv) (rgOk_cons (by show i0 ≤ ρ1 30 ∧ ρ1 30 ≤ i1; rw [A.i30]; exact h0) (rgOk_cons (by show (0 : Int) ≤ ρ1 31 ∧ ρ1 31 ≤ 0; rw [z.2.2]; omega) (rgOk_cons hl rgOk_nil)))
theorem more_ok {ρ1 ρ0 : Nat → Int} {W : World} {q : Option Addr} {n c : Nat} {xs : Nat → Value} (G : GivenW W ρ0 q n c xs) {i : Nat} {b : Bool} (i30 : ρ1 30 = i) (h304 : ρ1 304 = ρ0 304) (hb : decide (i < n) = b) : ∀ x ∈ moreF b, x.1.ev ρ1 = x.2 := by
  intro x hx
  rcases List.mem_cons.1 hx with rfl | hx
  · show decide (ρ1 30 < ρ1 304) = b
    rw [i30, h304, G.len, ← hb]
    simp
  · rcases List.mem_cons.1 hx with rfl | hx
    · show decide ((0 : Int) ≤ ρ1 304) = true
      rw [h304, G.len]
      exact decide_eq_true (by omega)
    · cases hx
theorem rd_ok {ρ1 ρ0 : Nat → Int} {W : World} {q : Option Addr} {n c : Nat} {xs : Nat → Value} (G : GivenW W ρ0 q n c xs) {i : Nat} (hi : i < n) (hh : ∀ k, 64 ≤ k → k < 600 → ρ1 k = ρ0 k) (i30 : ρ1 30 = i) {u : AV} (hu : ∀ φ, conc φ ρ1 u = some (xs i)) : RdH ρ1 W 30 u := by
  obtain ⟨b, hb, h1, h2⟩ := G.cell i hi
  refine ⟨b, n, c, i, xs i, ⟨?_, ?_, ?_, i30, hi, hu⟩, h1, h2⟩
  · rw [← hb, ← G.adr]
    simp only [adrL, hh 300 (by omega) (by omega), hh (300 + 1) (by omega) (by omega), hh (300 + 2) (by omega) (by omega)]
  · rw [hh 304 (by omega) (by omega), G.len]
    rfl
  · rw [hh 303 (by omega) (by omega)]
    exact G.cap
set_option maxRecDepth 100000 in
theorem core_ok {p : Pat} {j' : Nat} {u : AV} {pp : List (SB × Bool)} {i0 i1 lo hi pd : Int} (hr : allE (bodyR p j' u (moreF true ++ pp) (rgW i0 i1 lo hi pd)) (moreF true ++ pp) = true) {W : World} {ρ0 ρ1 : Nat → Int} {q : Option Addr} {n c : Nat} {xs : Nat → Value} (G : GivenW W ρ0 q n c xs) {i : Nat} (hin : i < n) {v : Int} {a : Act} {w : World}
    (hat : AtW W p ρ1 a w) (A : Aft ρ1 ρ0 i v) (h0 : i0 ≤ i ∧ (i : Int) ≤ i1) (hv : 0 ≤ v ∧ v ≤ pd) (hl : lo ≤ ρ1 32 ∧ ρ1 32 ≤ hi) (hpp : ∀ x ∈ pp, x.1.ev ρ1 = x.2) (hu : ∀ φ, conc φ ρ1 u = some (xs i)) :
    loopC.wp Tryz.prog (fun e a' w' => (e = .normal ∧ ∃ ρ2, AtW W (patW j') ρ2 a' w' ∧ LetW ρ2 ρ0 (i + 1)) ∨ (e = .ret ∧ BP W a' w')) a w := by
  have hn := G.le
  have hrg : RgOk ρ1 (rgW i0 i1 lo hi pd) := rgW_ok A (by omega) h0 hv hl
  have hm := more_ok (b := true) G A.i30 (A.hi 304 (by omega) (by omega)) (decide_eq_true hin)
  refine Code.wp_mono (fun e a' w' h => ?_) (round_ok hr hat hrg (fun x hx => (List.mem_append.1 hx).elim (hm x) (hpp x)) (rd_ok G hin A.hi A.i30 hu))
  rcases h with ⟨rfl, r, hg, h2⟩ | h
  · refine .inl ⟨rfl, _, h2, ?_⟩
    simp only [grwW, Bool.and_eq_true, List.all_cons, List.all_nil] at hg
    obtain ⟨⟨k4, k5, k6, k7, k8, k9, _⟩, k2, k1, k30, k3, kn⟩ := hg
    have b2 := A.n2
    have cnt : ∀ k, 4 ≤ k → k ≤ 9 → grwB k 30 (letR r k) = true → 0 ≤ r.rho ρ1 k ∧ r.rho ρ1 k ≤ 30 * ((i + 1 : Nat) : Int) := by
      intro k h4 h9 hk
      have b := A.cn k h4 h9
      have := grwB_ok hk (ρ := ρ1) (by omega) (by omega)
      rw [letR_ev r ρ1 (by omega)]
      omega
    refine ⟨?_, ?_, fun _ => ⟨?_, ?_, fun k h4 h9 => ?_⟩, fun k h1 h2 => (Ren.rho_hi ⟨h1, by omega⟩).trans (A.hi k h1 h2), fun a h1 h2 => ?_⟩
    · rw [letR_ev r ρ1 (by omega), SI.beq_eq _ _ k1]
      exact A.p1
    · rw [letR_ev r ρ1 (by omega), SI.beq_eq _ _ k30]
      show IntKind.i64.wrap (ρ1 30 + 1) = _
      rw [A.i30, wrap_i64']
      omega
    · have := grwB_ok k2 (ρ := ρ1) (by omega) (by omega)
      rw [letR_ev r ρ1 (by omega)]
      omega
    · rw [letR_ev r ρ1 (by omega)]
      unfold in32 at k3
      split at k3
      · rename_i x y hxy
        have := rngS_in hrg (letR r 3) x y hxy
        have k3 := of_decide_eq_true k3
        omega
      · cases k3
    · rcases (by omega : k = 4 ∨ k = 5 ∨ k = 6 ∨ k = 7 ∨ k = 8 ∨ k = 9) with rfl | rfl | rfl | rfl | rfl | rfl
      · exact cnt 4 h4 h9 k4
      · exact cnt 5 h4 h9 k5
      · exact cnt 6 h4 h9 k6
      · exact cnt 7 h4 h9 k7
      · exact cnt 8 h4 h9 k8
      · exact cnt 9 h4 h9 k9
    · have e := r.rowEq ρ1 (a := a) ⟨by omega, h2⟩
      rw [nilN_row kn] at e
      exact e.trans (A.rw a h1 h2)
  · exact .inr h
/-- a run for rows of that length -/
def RunF (p : Pat) (j L : Nat) (i0 i1 : Int) : Prop := ∃ (j' : Nat) (pp : List (SB × Bool)) (lo hi pd v : Int), allE (bodyR p j' (.fsl 32 zeroS zeroS (.var 32)) (moreF true ++ pp) (rgW i0 i1 lo hi pd)) (moreF true ++ pp) = true ∧ (lo ≤ L ∧ (L : Int) ≤ hi) ∧ (0 ≤ v ∧ v ≤ pd) ∧ (∀ ρ : Nat → Int, ρ 32 = L → ρ 29 = v → ∀ x ∈ pp, x.1.ev ρ = x.2) ∧ (j' = j ∨ j' = j + 1 ∧ 1473 ≤ L)
structure Runs (p : Pat) (j : Nat) (i0 i1 : Int) (l : List (Nat × SI)) : Prop where
  ok : p.okB 148 = true
  c4 : ∀ i v, chkH [] (rRow l i v) p.h (Tr.toL p.h (nat_lit 0) (nat_lit 1) []) .nil = true
  cT : ∀ i v, chkTm [] (rRow l i v) (p.ts 148) p.tm = true
  z : allE (bodyR p j (.osl 628 32 631) (moreF true ++ [(.cmp .eql (.var 630) zeroS, false)]) (rgW i0 i1 0 0 0)) (moreF true ++ [(.cmp .eql (.var 630) zeroS, false)]) = true
  nl : allE (bodyR p j (.raw (.slice none 0 0)) (moreF true) (rgW i0 i1 0 0 0)) (moreF true) = true
  f : ∀ L : Nat, 1473 * j + L ≤ 20000 → RunF p j L i0 i1
theorem adr_eq {ρ1 ρ0 : Nat → Int} {a : Nat} (h : RowEq ρ1 ρ0 32 a) : adrL ρ1 628 = adrL ρ0 (500 + 4 * a) := by
  have e0 : ρ1 628 = ρ0 (500 + 4 * a) := h.2 0 (by omega)
  have e1 : ρ1 (628 + 1) = ρ0 (500 + 4 * a + 1) := h.2 1 (by omega)
  have e2 : ρ1 (628 + 2) = ρ0 (500 + 4 * a + 2) := h.2 2 (by omega)
  simp only [adrL, e0, e1, e2]
set_option maxRecDepth 100000 in
/-- A ROUND, whatever the datagram is. -/
theorem step_ok {p : Pat} {j : Nat} {i0 i1 : Int} {l : List (Nat × SI)} (R : Runs p j i0 i1 l) {W : World} {ρ0 ρ : Nat → Int} {q : Option Addr} {n c : Nat} {xs : Nat → Value} (G : GivenW W ρ0 q n c xs) (hs : smL xs n ≤ 20000) {i : Nat} (hin : i < n) (h0 : i0 ≤ i ∧ (i : Int) ≤ i1) (hj : 1473 * j ≤ smL xs i) {a : Act} {w : World} (hat : AtW W p ρ a w) (hA : ∀ v, Aft ((rRow l i v).rho ρ) ρ0 i v) :
    loopC.wp Tryz.prog (fun e a' w' => (e = .normal ∧ ∃ j' ρ2, AtW W (patW j') ρ2 a' w' ∧ LetW ρ2 ρ0 (i + 1) ∧ 1473 * j' ≤ smL xs (i + 1)) ∨ (e = .ret ∧ BP W a' w')) a w := by
  have hmono := smL_mono xs (show i + 1 ≤ n by omega)
  have hsi : smL xs (i + 1) = smL xs i + lnV (xs i) := rfl
  have keep : ∀ {j' : Nat}, 1473 * j' ≤ smL xs (i + 1) → ∀ e a' w', ((e = Exit.normal ∧ ∃ ρ2, AtW W (patW j') ρ2 a' w' ∧ LetW ρ2 ρ0 (i + 1)) ∨ (e = .ret ∧ BP W a' w')) → ((e = .normal ∧ ∃ j' ρ2, AtW W (patW j') ρ2 a' w' ∧ LetW ρ2 ρ0 (i + 1) ∧ 1473 * j' ≤ smL xs (i + 1)) ∨ (e = .ret ∧ BP W a' w')) := by
    intro j' hj' e a' w' h
    rcases h with ⟨rfl, ρ2, h1, h2⟩ | h
    · exact .inl ⟨rfl, j', ρ2, h1, h2, hj'⟩
    · exact .inr h
  have h1 : ∀ v, AtW W p ((rRow l i v).rho ρ) a w := fun v => at_ren R.ok (R.c4 i v) (R.cT i v) hat
  rcases G.row i hin with ⟨hx, x0, x3, xa⟩ | ⟨qa, hx, x0, x3, xa⟩ | ⟨L, hL, x0, hlen, hc⟩
  · have A := hA 0
    have hat1 := h1 0
    generalize (rRow l i 0).rho ρ = ρ1 at A hat1
    have h32 : ρ1 32 = 0 := by rw [A.r32.1, x0]
    have hnl : allE (bodyR p j (.raw (.slice none 0 0)) (moreF true ++ []) (rgW i0 i1 0 0 0)) (moreF true ++ []) = true := by
      rw [List.append_nil]
      exact R.nl
    have hu : ∀ φ, conc φ ρ1 (.raw (.slice none 0 0)) = some (xs i) := fun φ => by simp only [conc, hx]
    exact Code.wp_mono (keep (j' := j) (by omega)) (core_ok hnl G hin hat1 A h0 ⟨Int.le_refl _, Int.le_refl _⟩ (by rw [h32]; omega) (fun x hx => by cases hx) hu)
  · have A := hA 0
    have hat1 := h1 0
    generalize (rRow l i 0).rho ρ = ρ1 at A hat1
    have h32 : ρ1 32 = 0 := by rw [A.r32.1, x0]
    have hadr : adrL ρ1 628 = some qa := by rw [adr_eq A.r32]; exact xa
    have e3 : ρ1 631 = 0 := (A.r32.2 3 (by omega)).trans x3
    have hf : ∀ x ∈ [((SB.cmp .eql (.var 630) zeroS, false) : SB × Bool)], x.1.ev ρ1 = x.2 := fun x hx => by
      obtain rfl := List.mem_singleton.1 hx
      show (ρ1 630 == 0) = false
      rw [beq_eq_false_iff_ne]
      intro hh
      unfold adrL at hadr
      rw [if_pos hh] at hadr
      cases hadr
    have hu : ∀ φ, conc φ ρ1 (.osl 628 32 631) = some (xs i) := fun φ => by
      simp only [conc, hadr, h32, e3, hx]
      rfl
    exact Code.wp_mono (keep (j' := j) (by omega)) (core_ok R.z G hin hat1 A h0 ⟨Int.le_refl _, Int.le_refl _⟩ (by rw [h32]; omega) hf hu)
  · obtain ⟨j', pp, lo, hi, pd, v, r1, r2, r3, r4, r5⟩ := R.f L (by omega)
    have A := hA v
    have hat1 := h1 v
    generalize (rRow l i v).rho ρ = ρ1 at A hat1
    have h32 : ρ1 32 = L := by rw [A.r32.1, x0]
    have hu : ∀ φ, conc φ ρ1 (.fsl 32 zeroS zeroS (.var 32)) = some (xs i) := fun φ => by
      rw [A.r32.conc]
      exact hc φ
    exact Code.wp_mono (keep (j' := j') (by omega)) (core_ok r1 G hin hat1 A h0 r3 (by rw [h32]; exact r2) (r4 _ h32 A.v29) hu)
/-- where a round begins -/
def StW (W : World) (ρ0 : Nat → Int) (xs : Nat → Value) (i : Nat) (a : Act) (w : World) : Prop := (i = 0 ∧ ∃ ρ, AtW W patI ρ a w ∧ LetW ρ ρ0 0) ∨ (1 ≤ i ∧ ∃ j ρ, AtW W (patW j) ρ a w ∧ LetW ρ ρ0 i ∧ 1473 * j ≤ smL xs i)
/-- what the runs say, all together -/
structure AllR : Prop where
  I : Runs patI 0 0 0 lI
  W : ∀ j, j ≤ 13 → Runs (patW j) j 1 9 lW
  eI : allE (exitR patI (moreF false) (rgW 0 0 0 0 0)) (moreF false) = true
  eW : ∀ j, j ≤ 13 → allE (exitR (patW j) (moreF false) (rgW 1 10 0 0 0)) (moreF false) = true
def QL (W : World) (e : Exit) (a : Act) (w : World) : Prop := (e = .exit 2 ∧ postC.wp Tryz.prog (fun e a w => e = .ret ∧ BP W a w) a w) ∨ (e = .ret ∧ BP W a w)
theorem exit_any {p : Pat} {l : List (Nat × SI)} {i0 i1 : Int} (hr : allE (exitR p (moreF false) (rgW i0 i1 0 0 0)) (moreF false) = true) (ok : p.okB 148 = true) (c4 : ∀ i v, chkH [] (rRow l i v) p.h (Tr.toL p.h (nat_lit 0) (nat_lit 1) []) .nil = true) (cT : ∀ i v, chkTm [] (rRow l i v) (p.ts 148) p.tm = true)
    {W : World} {ρ0 ρ : Nat → Int} {q : Option Addr} {n c : Nat} {xs : Nat → Value} (G : GivenW W ρ0 q n c xs) (h0 : i0 ≤ n ∧ (n : Int) ≤ i1) {a : Act} {w : World} (hat : AtW W p ρ a w) (A : Aft ((rRow l n 0).rho ρ) ρ0 n 0) : loopC.wp Tryz.prog (QL W) a w := by
  have hn := G.le
  have h32 : (rRow l n 0).rho ρ 32 = 0 := by rw [A.r32.1]; exact G.top
  refine Code.wp_mono (fun e a' w' h => .inl h) (exit_ok hr (at_ren ok (c4 n 0) (cT n 0) hat) (rgW_ok A hn h0 ⟨Int.le_refl _, Int.le_refl _⟩ (by rw [h32]; omega)) (more_ok (b := false) G A.i30 (A.hi 304 (by omega) (by omega)) (decide_eq_false (by omega))))
theorem loop_okW (R : AllR) {W : World} {ρ0 : Nat → Int} {q : Option Addr} {n c : Nat} {xs : Nat → Value} (G : GivenW W ρ0 q n c xs) (hs : smL xs n ≤ 20000) : ∀ (m i : Nat), i + m = n → ∀ {a : Act} {w : World}, StW W ρ0 xs i a w → (Code.loop loopC).wp Tryz.prog (QL W) a w := by
  have hn := G.le
  have nout : ∀ a w, ¬ QL W .outgrown a w := fun a w h => by rcases h with h | h <;> cases h.1
  have ngo : ∀ l a w, ¬ QL W (.goto l) a w := fun l a w h => by rcases h with h | h <;> cases h.1
  intro m
  induction m with
  | zero =>
    intro i him a w h
    obtain rfl : i = n := by omega
    have hf : loopC.wp Tryz.prog (QL W) a w := by
      rcases h with ⟨h0, ρ, hat, hL⟩ | ⟨h1, j, ρ, hat, hL, hj⟩
      · subst h0
        exact exit_any R.eI R.I.ok R.I.c4 R.I.cT G ⟨by omega, by omega⟩ hat (aft_I hL)
      · have hj13 : j ≤ 13 := by omega
        exact exit_any (R.eW j hj13) (R.W j hj13).ok (R.W j hj13).c4 (R.W j hj13).cT G ⟨by omega, by omega⟩ hat (aft_W hL h1 (by omega))
    refine wp_loop_unroll nout ngo (Code.wp_mono (fun e a' w' hp => ?_) hf)
    rcases hp with ⟨rfl, h⟩ | ⟨rfl, h⟩
    · exact .inl ⟨rfl, h⟩
    · exact .inr ⟨rfl, h⟩
  | succ m ih =>
    intro i him a w h
    have hst : loopC.wp Tryz.prog (fun e a' w' => (e = .normal ∧ ∃ j' ρ2, AtW W (patW j') ρ2 a' w' ∧ LetW ρ2 ρ0 (i + 1) ∧ 1473 * j' ≤ smL xs (i + 1)) ∨ (e = .ret ∧ BP W a' w')) a w := by
      rcases h with ⟨h0, ρ, hat, hL⟩ | ⟨h1, j, ρ, hat, hL, hj⟩
      · subst h0
        exact step_ok R.I G hs (by omega) ⟨by omega, by omega⟩ (by omega) hat (fun v => aft_I hL)
      · have := smL_mono xs (show i ≤ n by omega)
        have hj13 : j ≤ 13 := by omega
        exact step_ok (R.W j hj13) G hs (by omega) ⟨by omega, by omega⟩ hj hat (fun v => aft_W hL h1 (by omega))
    refine wp_loop_unroll nout ngo (Code.wp_mono (fun e a' w' hp => ?_) hst)
    rcases hp with ⟨rfl, j', ρ2, h1, h2, h3⟩ | ⟨rfl, h⟩
    · exact ih (i + 1) (by omega) (.inr ⟨by omega, j', ρ2, h1, h2, h3⟩)
    · exact .inr ⟨rfl, h⟩

/-! the lengths -/
structure LetS (ρ ρ0 : Nat → Int) (xs : Nat → Value) (i : Nat) : Prop where
  p1 : 1 ≤ ρ 1 ∧ ρ 1 ≤ 65535
  s3 : ρ 3 = smL xs i
  i30 : ρ 30 = i
  hi : ∀ k, 64 ≤ k → k < 600 → ρ k = ρ0 k
  rw : ∀ a, 33 ≤ a → a < 64 → RowEq ρ ρ0 a a
theorem patS_c4 (i : Nat) (v : Int) : chkH [] (rRow lS i v) patS.h (Tr.toL patS.h (nat_lit 0) (nat_lit 1) []) .nil = true := by kernel_rfl
theorem patS_cT (i : Nat) (v : Int) : chkTm [] (rRow lS i v) (patS.ts 148) patS.tm = true := by kernel_rfl
theorem smL_le {ρ0 : Nat → Int} {W : World} {q : Option Addr} {n c : Nat} {xs : Nat → Value} (G : GivenW W ρ0 q n c xs) : ∀ i, i ≤ n → smL xs i ≤ 1048576 * i
  | 0, _ => Nat.le_refl _
  | i + 1, h => by
    have h1 := smL_le G i (by omega)
    have h2 : lnV (xs i) ≤ 1048576 := by
      rcases G.row i (by omega) with ⟨hx, _⟩ | ⟨qa, hx, _⟩ | ⟨L, hL, _, hl, _⟩
      · rw [hx]; show 0 ≤ _; omega
      · rw [hx]; show 0 ≤ _; omega
      · omega
    show smL xs i + lnV (xs i) ≤ _
    omega
theorem rgS_ok {ρ1 : Nat → Int} {i0 i1 hi : Int} (p1 : 1 ≤ ρ1 1 ∧ ρ1 1 ≤ 65535) (s3 : 0 ≤ ρ1 3 ∧ ρ1 3 ≤ 20971520) (i30 : i0 ≤ ρ1 30 ∧ ρ1 30 ≤ i1) (h32 : 0 ≤ ρ1 32 ∧ ρ1 32 ≤ hi) (z : ρ1 0 = 0 ∧ ρ1 2 = 0 ∧ (∀ k, 4 ≤ k → k ≤ 29 → ρ1 k = 0) ∧ ρ1 31 = 0) : RgOk ρ1 (rgS i0 i1 hi) := by
  obtain ⟨z0, z2, zk, z31⟩ := z
  unfold rgS
  refine rgOk_cons (by rw [z0]; omega) (rgOk_cons p1 (rgOk_cons (by show (0 : Int) ≤ ρ1 2 ∧ ρ1 2 ≤ 0; rw [z2]; omega) (rgOk_cons s3 ?_)))
  have e : ∀ k, 4 ≤ k → k ≤ 29 → (0 : Int) ≤ ρ1 k ∧ ρ1 k ≤ 0 := fun k h1 h2 => by rw [zk k h1 h2]; omega
  iterate 26 refine rgOk_cons (e _ (by decide) (by decide)) ?_
  exact rgOk_cons i30 (rgOk_cons (by show (0 : Int) ≤ ρ1 31 ∧ ρ1 31 ≤ 0; rw [z31]; omega) (rgOk_cons h32 rgOk_nil))
theorem lS_z {ρ : Nat → Int} {i : Nat} : (rRow lS i 0).rho ρ 0 = 0 ∧ (rRow lS i 0).rho ρ 2 = 0 ∧ (∀ k, 4 ≤ k → k ≤ 29 → (rRow lS i 0).rho ρ k = 0) ∧ (rRow lS i 0).rho ρ 31 = 0 := by
  refine ⟨rfl, rfl, fun k h1 h2 => ?_, rfl⟩
  rcases (by omega : k = 4 ∨ k = 5 ∨ k = 6 ∨ k = 7 ∨ k = 8 ∨ k = 9 ∨ k = 10 ∨ k = 11 ∨ k = 12 ∨ k = 13 ∨ k = 14 ∨ k = 15 ∨ k = 16 ∨ k = 17 ∨ k = 18 ∨ k = 19 ∨ k = 20 ∨ k = 21 ∨ k = 22 ∨ k = 23 ∨ k = 24 ∨ k = 25 ∨ k = 26 ∨ k = 27 ∨ k = 28 ∨ k = 29) with rfl | rfl | rfl | rfl | rfl | rfl | rfl | rfl | rfl | rfl | rfl | rfl | rfl | rfl | rfl | rfl | rfl | rfl | rfl | rfl | rfl | rfl | rfl | rfl | rfl | rfl <;> rfl
theorem sumN_ok {D : Dn} {e3 e30 : SI} {s : St} {t : Ts} (h : sumN e3 e30 .normal s t ∈ D) : D.S.pc.l = s.pc.l ∧ ∃ r, (letR r 1 = .var 1 ∧ letR r 3 = e3 ∧ letR r 30 = e30 ∧ nilN r.rw = true) ∧ ∀ {ρ w0 φ a w}, Holds ρ s.pc → GA φ ρ t 148 a → Gm Tryz.prog ρ w0 φ s w → AtW w0.w0 patS (r.rho ρ) a w := by
  rcases matchP_inv (P := Tryz.prog) patS_ok (show matchP patS 148 s t (.fail 988) (fun r => Bool.rec (motive := fun _ => R) (.fail 998) (.done (.int .i64 (.lit (.ofNat 0))) ⟨.nil, nat_lit 0, ⟨s.pc.l, [], []⟩⟩) (SI.beq (letR r 1) (.var 1) && (SI.beq (letR r 3) e3 && (SI.beq (letR r 30) e30 && nilN r.rw)))) ∈ D from h) with h | ⟨r, h1, h2⟩
  · cases h
  · obtain ⟨hb, h3⟩ := brec_inv h1
    obtain ⟨_, hS⟩ : (AV.int .i64 (.lit (.ofNat 0))) = D.V ∧ (⟨.nil, nat_lit 0, ⟨s.pc.l, [], []⟩⟩ : St) = D.S := h3
    simp only [Bool.and_eq_true] at hb
    exact ⟨by rw [← hS], r, ⟨SI.beq_eq _ _ hb.1, SI.beq_eq _ _ hb.2.1, SI.beq_eq _ _ hb.2.2.1, hb.2.2.2⟩, fun {ρ w0 φ a w} hρ hg hm => by
      obtain ⟨w0', φ', e1, e2, e3⟩ := h2 (l := []) hρ hg hm
      exact ⟨w0', φ', e1, e2, e3⟩⟩
set_option maxRecDepth 100000 in
theorem sumRun_ok {u : AV} {e3 : SI} {pcs : List (SB × Bool)} {rg : List (Int × Int)} (hr : allE (sumR u e3 pcs rg) pcs = true) {W : World} {ρ : Nat → Int} {a : Act} {w : World} (hat : AtW W patS ρ a w) (hrg : RgOk ρ rg) (hpc : ∀ x ∈ pcs, x.1.ev ρ = x.2) (hrd : RdH ρ W 30 u) :
    loopS.wp Tryz.prog (fun e a' w' => e = .normal ∧ ∃ r, (letR r 1 = .var 1 ∧ letR r 3 = e3 ∧ letR r 30 = .bin .add .i64 (.var 30) (.lit (.ofNat 1)) ∧ nilN r.rw = true) ∧ AtW W patS (r.rho ρ) a' w') a w := by
  obtain ⟨V, S, h1, h4⟩ := allE_inv (ρ := ρ) hr hpc
  obtain ⟨w0, φ, hW, hg, hm⟩ := hat
  have hm : Gm Tryz.prog ρ w0 φ ⟨patS.h, patS.nx, ⟨pcs, [[]], rg⟩⟩ w := hm.pc ⟨pcs, [[]], rg⟩
  obtain ⟨e, s1, t1, e1, x1, q1⟩ := ihA_ok ρ (f := 3) (sz := 148) (c := lftC loopS) cHeadS h1
  cases e with
  | exit i => cases e1
  | ret => cases e1
  | normal =>
    obtain ⟨e, s2, t2, e2, x2, q2⟩ := evR_ok (ρ := ρ) cBlkS (show evR 30 u (lftC (rgtC loopS)) s1 t1 (sumB e3) ∈ Dn.mk ρ V S from e1)
    cases e with
    | exit i => cases e2
    | ret => cases e2
    | normal =>
      obtain ⟨e, s3, t3, e3', x3, q3⟩ := ihA_ok ρ (f := 3) (sz := 148) (c := nextS) cNextS (show ihA 3 148 nextS s2 t2 (sumN e3 (.bin .add .i64 (.var 30) (.lit (.ofNat 1)))) ∈ Dn.mk ρ V S from e2)
      cases e with
      | exit i => cases e3'
      | ret => cases e3'
      | normal =>
        obtain ⟨f1, r, f2, f3⟩ := sumN_ok e3'
        have hρ : Holds ρ s3.pc := ⟨by rw [← f1]; exact h4, by rw [x3.rg, x2.rg, x1.rg]; exact hrg⟩
        rw [loopS_eq]
        refine wp_seq (Code.wp_mono (fun e a1 w1 hp1 => ?_) (q1 (hρ.of_ext (x2.trans x3)) hg hm))
        obtain ⟨rfl, φ1, p1, g1, m1⟩ := hp1
        show (Code.seq (lftC (rgtC loopS)) nextS).wp Tryz.prog _ a1 w1
        refine wp_seq (Code.wp_mono (fun e a2 w2 hp2 => ?_) (q2 (by rw [hW]; exact hrd) (hρ.of_ext x3) g1 m1))
        obtain ⟨rfl, φ2, p2, g2, m2⟩ := hp2
        show nextS.wp Tryz.prog _ a2 w2
        refine Code.wp_mono (fun e a3 w3 hp3 => ?_) (q3 hρ g2 m2)
        obtain ⟨rfl, φ3, p3, g3, m3⟩ := hp3
        refine ⟨rfl, r, f2, ?_⟩
        rw [← hW]
        exact f3 hρ g3 m3
/-- the runs of the lengths -/
structure SumRs : Prop where
  z : allE (sumR (.osl 628 32 631) (.var 3) (moreF true) (rgS 0 9 0)) (moreF true) = true
  r : allE (sumR (.fsl 32 zeroS zeroS (.var 32)) (.bin .add .i64 (.var 3) (.var 32)) (moreF true) (rgS 0 9 1048576)) (moreF true) = true
theorem lS_1 (ρ : Nat → Int) (i : Nat) : (rRow lS i 0).rho ρ 1 = ρ 1 ∧ (rRow lS i 0).rho ρ 3 = ρ 3 ∧ (rRow lS i 0).rho ρ 30 = ρ 30 := ⟨rfl, rfl, rfl⟩
set_option maxRecDepth 100000 in
theorem sumStep_ok (R : SumRs) {W : World} {ρ0 ρ : Nat → Int} {q : Option Addr} {n c : Nat} {xs : Nat → Value} (G : GivenW W ρ0 q n c xs) {i : Nat} (hin : i < n) {a : Act} {w : World} (hat : AtW W patS ρ a w) (hL : LetS ρ ρ0 xs i) :
    loopS.wp Tryz.prog (fun e a' w' => e = .normal ∧ ∃ ρ2, AtW W patS ρ2 a' w' ∧ LetS ρ2 ρ0 xs (i + 1)) a w := by
  have hn := G.le
  have hsl := smL_le G i (by omega)
  obtain ⟨r1, r2⟩ := rRow_rows (l := lS) (v := 0) (i := i) (by omega) hL.rw
  obtain ⟨l1, l3, l30⟩ := lS_1 ρ i
  have hat1 := at_ren patS_ok (patS_c4 i 0) (patS_cT i 0) hat
  have hhi : ∀ k, 64 ≤ k → k < 600 → (rRow lS i 0).rho ρ k = ρ0 k := fun k h1 h2 => (rRow_hi ρ h1 h2).trans (hL.hi k h1 h2)
  have hzz := lS_z (ρ := ρ) (i := i)
  generalize hρ1 : (rRow lS i 0).rho ρ = ρ1 at *
  have i30 : ρ1 30 = i := by rw [l30]; exact hL.i30
  have s3 : ρ1 3 = smL xs i := by rw [l3]; exact hL.s3
  have p1 : 1 ≤ ρ1 1 ∧ ρ1 1 ≤ 65535 := by rw [l1]; exact hL.p1
  have hm := more_ok (b := true) G i30 (hhi 304 (by omega) (by omega)) (decide_eq_true hin)
  have fin : ∀ {e3 : SI} {a' w'}, e3.ev ρ1 = smL xs (i + 1) → (∃ r, (letR r 1 = .var 1 ∧ letR r 3 = e3 ∧ letR r 30 = .bin .add .i64 (.var 30) (.lit (.ofNat 1)) ∧ nilN r.rw = true) ∧ AtW W patS (r.rho ρ1) a' w') → ∃ ρ2, AtW W patS ρ2 a' w' ∧ LetS ρ2 ρ0 xs (i + 1) := by
    intro e3 a' w' he h
    obtain ⟨r, ⟨k1, k3, k30, kn⟩, h2⟩ := h
    refine ⟨_, h2, ?_, ?_, ?_, fun k h1 h2 => (Ren.rho_hi ⟨h1, by omega⟩).trans (hhi k h1 h2), fun a h1 h2 => ?_⟩
    · rw [letR_ev r ρ1 (by omega), k1]; exact p1
    · rw [letR_ev r ρ1 (by omega), k3]; exact he
    · rw [letR_ev r ρ1 (by omega), k30]
      show IntKind.i64.wrap (ρ1 30 + 1) = _
      rw [i30, wrap_i64']
      omega
    · have e := r.rowEq ρ1 (a := a) ⟨by omega, h2⟩
      rw [nilN_row kn] at e
      exact e.trans (r2 a h1 h2)
  have hsi : smL xs (i + 1) = smL xs i + lnV (xs i) := rfl
  have emp : ∀ qa, xs i = .slice qa 0 0 → ρ0 (33 + i) = 0 → ρ0 (500 + 4 * (33 + i) + 3) = 0 → adrL ρ0 (500 + 4 * (33 + i)) = qa → loopS.wp Tryz.prog (fun e a' w' => e = .normal ∧ ∃ ρ2, AtW W patS ρ2 a' w' ∧ LetS ρ2 ρ0 xs (i + 1)) a w := by
    intro qa hx x0 x3 xa
    have h32 : ρ1 32 = 0 := by rw [r1.1, x0]
    have hadr : adrL ρ1 628 = qa := by rw [adr_eq r1]; exact xa
    have e3 : ρ1 631 = 0 := (r1.2 3 (by omega)).trans x3
    refine Code.wp_mono (fun e a' w' h => ⟨h.1, fin (e3 := .var 3) (by show ρ1 3 = _; rw [s3, hsi, hx]; rfl) h.2⟩) (sumRun_ok R.z hat1 (rgS_ok p1 (by rw [s3]; omega) (by rw [i30]; omega) (by rw [h32]; omega) hzz) hm (rd_ok G hin hhi i30 (fun φ => ?_)))
    simp only [conc, hadr, h32, e3, hx]
    rfl
  rcases G.row i hin with ⟨hx, x0, x3, xa⟩ | ⟨qa, hx, x0, x3, xa⟩ | ⟨L, hL', x0, hlen, hc⟩
  · exact emp none hx x0 x3 xa
  · exact emp (some qa) hx x0 x3 xa
  · have h32 : ρ1 32 = L := by rw [r1.1, x0]
    refine Code.wp_mono (fun e a' w' h => ⟨h.1, fin (e3 := .bin .add .i64 (.var 3) (.var 32)) ?_ h.2⟩) (sumRun_ok R.r hat1 (rgS_ok p1 (by rw [s3]; omega) (by rw [i30]; omega) (by rw [h32]; omega) hzz) hm (rd_ok G hin hhi i30 (fun φ => ?_)))
    · show IntKind.i64.wrap (ρ1 3 + ρ1 32) = _
      rw [s3, h32, wrap_i64']
      omega
    · rw [r1.conc]
      exact hc φ
end Go.Proofs.YtmifojdpdbjodaaGreat

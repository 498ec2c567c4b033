/-
  HostHolds: what holds where a round begins; figures.
-/
import Derived.Test.YtoimjmmbppikoaaGreatHhP
set_option linter.unusedVariables false
set_option linter.unusedSimpArgs false
namespace Go.Proofs.YtoimjmmbppikoaaGreat
open Go

section
variable {a b : SI} {ρ : Nat → Int} {x y : Int}
theorem addI (ha : a.ev ρ = x) (hb : b.ev ρ = y) (h : -9223372036854775808 ≤ x + y ∧ x + y ≤ 9223372036854775807) : (SI.bin .add .i64 a b).ev ρ = x + y := by
  show IntKind.i64.wrap (a.ev ρ + b.ev ρ) = _
  rw [ha, hb, wrap_i64']
  omega
theorem subI' (ha : a.ev ρ = x) (hb : b.ev ρ = y) (h : -9223372036854775808 ≤ x - y ∧ x - y ≤ 9223372036854775807) : (SI.bin .sub .i64 a b).ev ρ = x - y := by
  show IntKind.i64.wrap (a.ev ρ - b.ev ρ) = _
  rw [ha, hb, wrap_i64']
  omega
theorem quoI (ha : a.ev ρ = x) (h : 0 ≤ x ∧ x ≤ 1000000) : (SI.bin .quo .i64 a (.lit (.ofNat 20))).ev ρ = x / 20 := by
  show IntKind.i64.wrap ((a.ev ρ).tdiv 20) = _
  rw [ha, Int.tdiv_eq_ediv_of_nonneg h.1, wrap_i64']
  omega
theorem lssT (ha : a.ev ρ = x) (hb : b.ev ρ = y) (h : (SB.cmp .lss a b).ev ρ = true) : x < y := by
  have h : decide (a.ev ρ < b.ev ρ) = true := h
  rw [ha, hb] at h
  exact of_decide_eq_true h
theorem lssF (ha : a.ev ρ = x) (hb : b.ev ρ = y) (h : (SB.cmp .lss a b).ev ρ = false) : ¬ x < y := by
  have h : decide (a.ev ρ < b.ev ρ) = false := h
  rw [ha, hb] at h
  exact of_decide_eq_false h
theorem leqT (ha : a.ev ρ = x) (hb : b.ev ρ = y) (h : (SB.cmp .leq a b).ev ρ = true) : x ≤ y := by
  have h : decide (a.ev ρ ≤ b.ev ρ) = true := h
  rw [ha, hb] at h
  exact of_decide_eq_true h
theorem leqF (ha : a.ev ρ = x) (hb : b.ev ρ = y) (h : (SB.cmp .leq a b).ev ρ = false) : ¬ x ≤ y := by
  have h : decide (a.ev ρ ≤ b.ev ρ) = false := h
  rw [ha, hb] at h
  exact of_decide_eq_false h
theorem eqlT (ha : a.ev ρ = x) (hb : b.ev ρ = y) (h : (SB.cmp .eql a b).ev ρ = true) : x = y := by
  have h : (a.ev ρ == b.ev ρ) = true := h
  rw [ha, hb, beq_iff_eq] at h
  exact h
theorem eqlF (ha : a.ev ρ = x) (hb : b.ev ρ = y) (h : (SB.cmp .eql a b).ev ρ = false) : x ≠ y := by
  have h : (a.ev ρ == b.ev ρ) = false := h
  rw [ha, hb, beq_eq_false_iff_ne] at h
  exact h
end
theorem bd {f x : Int} (lo hi : Int) (h : f = x) (h2 : lo ≤ x ∧ x ≤ hi) : lo ≤ f ∧ f ≤ hi := by
  rw [h]
  exact h2
theorem zz : (0 : Int) ≤ 0 ∧ (0 : Int) ≤ 0 := ⟨Int.le_refl _, Int.le_refl _⟩
theorem ai {a b : Prop} (h : a) (k : b) : a ∧ b := ⟨h, k⟩
theorem mh {α : Type} {a : α} {l : List α} : a ∈ a :: l := List.Mem.head _
theorem mt {α : Type} {a b : α} {l : List α} (h : a ∈ l) : a ∈ b :: l := List.Mem.tail _ h
/-! the forms that come up -/
noncomputable section
def vI (k : Nat) : AV := .int .i64 (.var k)
def pI (k : Nat) : AV := .int .i64 (.bin .add .i64 (.var k) (.lit (.ofNat 1)))
def qS (k : Nat) : SI := .bin .quo .i64 (.var k) (.lit (.ofNat 20))
def mS : SI := .bin .sub .i64 (qS 3) (qS 14)
def hS : SI := .bin .add .i64 (.var 13) mS
def kS : SI := .bin .add .i64 hS (.lit (.negSucc 0))
def cA : SB := .cmp .lss (.var 14) (.var 3)
def cB : SB := .cmp .lss (.lit (.ofNat 10)) mS
def cC : SB := .cmp .lss hS (.lit (.ofNat 10))
def cD : SB := .cmp .eql hS (.lit (.ofNat 0))
def cE : SB := .cmp .eql (.var 13) (.lit (.ofNat 0))
def cF : SB := .cmp .lss (.var 3) (.lit (.ofNat 600))
end
def Bnd (ρ : Nat → Int) : Prop := (1 ≤ ρ 1 ∧ ρ 1 ≤ 65535) ∧ (1 ≤ ρ 3 ∧ ρ 3 ≤ 30101) ∧ (0 ≤ ρ 4 ∧ ρ 4 ≤ 300) ∧ (1 ≤ ρ 5 ∧ ρ 5 ≤ 301) ∧ (0 ≤ ρ 6 ∧ ρ 6 ≤ 400) ∧ (0 ≤ ρ 7 ∧ ρ 7 ≤ 300) ∧ (0 ≤ ρ 8 ∧ ρ 8 ≤ 300) ∧ (0 ≤ ρ 9 ∧ ρ 9 ≤ 300) ∧ (0 ≤ ρ 10 ∧ ρ 10 ≤ 300) ∧ (1 ≤ ρ 11 ∧ ρ 11 ≤ 301) ∧ (0 ≤ ρ 12 ∧ ρ 12 ≤ 300) ∧ (0 ≤ ρ 13 ∧ ρ 13 ≤ 10) ∧ (0 ≤ ρ 14 ∧ ρ 14 ≤ 30101)
section
variable {ρ : Nat → Int}
theorem hS_ev (h : Bnd ρ) : hS.ev ρ = ρ 13 + (ρ 3 / 20 - ρ 14 / 20) := by
  obtain ⟨_, r3, _, _, _, _, _, _, _, _, _, r13, r14⟩ := h
  exact addI rfl (subI' (quoI rfl (by omega)) (quoI rfl (by omega)) (by omega)) (by omega)
theorem mS_ev (h : Bnd ρ) : mS.ev ρ = ρ 3 / 20 - ρ 14 / 20 := by
  obtain ⟨_, r3, _, _, _, _, _, _, _, _, _, r13, r14⟩ := h
  exact subI' (quoI rfl (by omega)) (quoI rfl (by omega)) (by omega)
theorem kS_ev (h : Bnd ρ) : kS.ev ρ = ρ 13 + (ρ 3 / 20 - ρ 14 / 20) + (-1) := by
  have e := hS_ev h
  obtain ⟨_, r3, _, _, _, _, _, _, _, _, _, r13, r14⟩ := h
  exact addI e rfl (by omega)
theorem cAT (h : Bnd ρ) (c : cA.ev ρ = true) : ρ 14 < ρ 3 := lssT rfl rfl c
theorem cAF (h : Bnd ρ) (c : cA.ev ρ = false) : ¬ ρ 14 < ρ 3 := lssF rfl rfl c
theorem cBT (h : Bnd ρ) (c : cB.ev ρ = true) : 10 < ρ 3 / 20 - ρ 14 / 20 := lssT rfl (mS_ev h) c
theorem cBF (h : Bnd ρ) (c : cB.ev ρ = false) : ¬ 10 < ρ 3 / 20 - ρ 14 / 20 := lssF rfl (mS_ev h) c
theorem cCT (h : Bnd ρ) (c : cC.ev ρ = true) : ρ 13 + (ρ 3 / 20 - ρ 14 / 20) < 10 := lssT (hS_ev h) rfl c
theorem cCF (h : Bnd ρ) (c : cC.ev ρ = false) : ¬ ρ 13 + (ρ 3 / 20 - ρ 14 / 20) < 10 := lssF (hS_ev h) rfl c
theorem cDT (h : Bnd ρ) (c : cD.ev ρ = true) : ρ 13 + (ρ 3 / 20 - ρ 14 / 20) = 0 := eqlT (hS_ev h) rfl c
theorem cDF (h : Bnd ρ) (c : cD.ev ρ = false) : ρ 13 + (ρ 3 / 20 - ρ 14 / 20) ≠ 0 := eqlF (hS_ev h) rfl c
theorem cET (h : Bnd ρ) (c : cE.ev ρ = true) : ρ 13 = 0 := eqlT rfl rfl c
theorem cEF (h : Bnd ρ) (c : cE.ev ρ = false) : ρ 13 ≠ 0 := eqlF rfl rfl c
theorem cFT (h : Bnd ρ) (c : cF.ev ρ = true) : ρ 3 < 600 := lssT rfl rfl c
theorem cFF (h : Bnd ρ) (c : cF.ev ρ = false) : ¬ ρ 3 < 600 := lssF rfl rfl c
end
/-- each letter within its bounds, from the k-th on -/
def rgAll : List (Int × Int) → (Nat → Int) → Nat → Prop
  | [], _, _ => True
  | x :: L, ρ, k => (x.1 ≤ ρ k ∧ ρ k ≤ x.2) ∧ rgAll L ρ (k + 1)
theorem rgAll_get : ∀ {L : List (Int × Int)} {ρ : Nat → Int} {k : Nat}, rgAll L ρ k → ∀ m l h, nthR L m = some (l, h) → l ≤ ρ (k + m) ∧ ρ (k + m) ≤ h
  | [], _, _, _, m, l, h, hn => by cases hn
  | x :: L, ρ, k, hr, 0, l, h, hn => by
    have hn : some x = some (l, h) := hn
    cases hn
    exact hr.1
  | x :: L, ρ, k, hr, m + 1, l, h, hn => by
    have := rgAll_get hr.2 m l h hn
    rw [show k + 1 + m = k + (m + 1) by omega] at this
    exact this
theorem rgOk_mk {L : List (Int × Int)} {ρ : Nat → Int} (h : rgAll L ρ 0) : RgOk ρ L := fun i l u hn => by
  have := rgAll_get h i l u hn
  rw [Nat.zero_add] at this
  exact this
theorem nthR_len : ∀ {L : List (Int × Int)} {m : Nat} {x : Int × Int}, nthR L m = some x → m < L.length
  | [], m, x, h => by cases h
  | y :: L, 0, x, h => by simp
  | y :: L, m + 1, x, h => by
    have := nthR_len (L := L) (m := m) h
    simp
    omega
theorem bnd0 {ρ : Nat → Int} (hr : RgOk ρ patP.rg) : Bnd ρ := ⟨hr 1 1 65535 rfl, hr 3 1 30101 rfl, hr 4 0 300 rfl, hr 5 1 301 rfl, hr 6 0 400 rfl, hr 7 0 300 rfl, hr 8 0 300 rfl, hr 9 0 300 rfl, hr 10 0 300 rfl, hr 11 1 301 rfl, hr 12 0 300 rfl, hr 13 0 10 rfl, hr 14 0 30101 rfl⟩
theorem bnd1 {ρ : Nat → Int} (hr : RgOk ρ patS1.rg) : Bnd ρ := ⟨hr 1 1 65535 rfl, hr 3 1 30101 rfl, hr 4 0 300 rfl, hr 5 1 301 rfl, hr 6 0 400 rfl, hr 7 0 300 rfl, hr 8 0 300 rfl, hr 9 0 300 rfl, hr 10 0 300 rfl, hr 11 1 301 rfl, hr 12 0 300 rfl, hr 13 0 10 rfl, hr 14 0 30101 rfl⟩
theorem bnd2 {ρ : Nat → Int} (hr : RgOk ρ patS2.rg) : Bnd ρ := ⟨hr 1 1 65535 rfl, hr 3 1 30101 rfl, hr 4 0 300 rfl, hr 5 1 301 rfl, hr 6 0 400 rfl, hr 7 0 300 rfl, hr 8 0 300 rfl, hr 9 0 300 rfl, hr 10 0 300 rfl, hr 11 1 301 rfl, hr 12 0 300 rfl, hr 13 0 10 rfl, hr 14 0 30101 rfl⟩
theorem bnd3 {ρ : Nat → Int} (hr : RgOk ρ patS3.rg) : Bnd ρ := ⟨hr 1 1 65535 rfl, hr 3 1 30101 rfl, hr 4 0 300 rfl, hr 5 1 301 rfl, hr 6 0 400 rfl, hr 7 0 300 rfl, hr 8 0 300 rfl, hr 9 0 300 rfl, hr 10 0 300 rfl, hr 11 1 301 rfl, hr 12 0 300 rfl, hr 13 0 10 rfl, hr 14 0 30101 rfl⟩
theorem bnd4 {ρ : Nat → Int} (hr : RgOk ρ patS4.rg) : Bnd ρ := ⟨hr 1 1 65535 rfl, hr 3 1 30101 rfl, hr 4 0 300 rfl, hr 5 1 301 rfl, hr 6 0 400 rfl, hr 7 0 300 rfl, hr 8 0 300 rfl, hr 9 0 300 rfl, hr 10 0 300 rfl, hr 11 1 301 rfl, hr 12 0 300 rfl, hr 13 0 10 rfl, hr 14 0 30101 rfl⟩
noncomputable def patN (j : Nat) : Pat := match j with
  | 0 => patP
  | 1 => patS1
  | 2 => patS2
  | 3 => patS3
  | _ => patS4
/-- i rounds are done; the time is of m steps at most -/
def Inv (p : Pat) (ρ : Nat → Int) (i m : Nat) : Prop := RgOk ρ p.rg ∧ ρ 4 = i ∧ ρ 5 = i + 1 ∧ ρ 9 = i ∧ ρ 10 = i ∧ ρ 6 ≤ i + 1 ∧ ρ 7 ≤ i ∧ ρ 11 ≤ i + 1 ∧ ρ 8 + ρ 12 ≤ i ∧ ρ 3 ≤ 1 + 100 * m ∧ ρ 14 ≤ ρ 3 ∧ ρ 13 + ρ 12 ≤ 10 + ρ 14 / 20
theorem Inv.congr {p : Pat} (hl : p.rg.length = 32) {ρ ρ' : Nat → Int} {i m : Nat} (h : ∀ k, k < 32 → ρ' k = ρ k) (hI : Inv p ρ i m) : Inv p ρ' i m := by
  obtain ⟨h0, h1⟩ := hI
  refine ⟨fun k l u hn => ?_, ?_⟩
  · rw [h k (by have := nthR_len hn; omega)]
    exact h0 k l u hn
  · rw [h 4 (by omega), h 5 (by omega), h 9 (by omega), h 10 (by omega), h 6 (by omega), h 7 (by omega), h 11 (by omega), h 8 (by omega), h 12 (by omega), h 3 (by omega), h 14 (by omega), h 13 (by omega)]
    exact h1
/-- the letters that an end tells -/
def newRho (es : List AV) (ρ : Nat → Int) (k : Nat) : Int := match es[k]? with
  | some (.int _ e) => e.ev ρ
  | _ => 0
def LeafOk (V : AV) (ρ : Nat → Int) (i : Nat) : Prop := match V with
  | .tup (.int _ (.lit (.ofNat j)) :: es) => Inv (patN j) (newRho es ρ) (i + 1) (i + 1)
  | _ => False
theorem lets_get (r : Ren) : ∀ (l : List Nat) (m k : Nat), l[m]? = some k → (lets r l)[m]? = some (.int .i64 (optD (.lit (.ofNat (nat_lit 0))) (r.si.get k)))
  | [], m, k, h => by cases h
  | x :: l, 0, k, h => by
    cases h
    rfl
  | x :: l, m + 1, k, h => lets_get r l m k h
theorem ks_get {k : Nat} (h : k < 32) : ks[k]? = some k := by
  have : ∀ k, k < 32 → ks[k]? = some k := by decide
  exact this k h
theorem newRho_lets (r : Ren) (ρ : Nat → Int) {k : Nat} (h : k < 32) : r.rho ρ k = newRho (lets r ks) ρ k := by
  unfold newRho
  rw [lets_get r ks k k (ks_get h)]
  unfold Ren.rho
  rw [if_pos h]
theorem patN_len (j : Nat) : (patN j).rg.length = 32 := by
  unfold patN
  split <;> kernel_rfl
end Go.Proofs.YtoimjmmbppikoaaGreat

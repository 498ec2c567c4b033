/-
  HostAltered: the letters, told ahead; what a byte that is changed does to a sum.
-/
import Derived.Test.YtjjfmhaakickcaaGreatHaz
import Derived.Test.YtjjfmhaakickcaaGreatCg
set_option linter.unusedVariables false
set_option linter.unusedSimpArgs false
namespace Go.Proofs.YtjjfmhaakickcaaGreat
open Go

/-! letters that are told ahead: 4 .. 31, and the bytes of row 33 -/
def rhoA (ρb : Nat → Int) (X V : Nat → Int) : Nat → Int := fun i => if 4 ≤ i ∧ i < 32 then X (i - 4) else if 1000 ≤ i ∧ i % 64 = 9 then V ((i - 1033) / 64) else ρb i
section
variable {ρb : Nat → Int} {X V : Nat → Int}
theorem rhoA_let {k : Nat} (h : k < 28) : rhoA ρb X V (4 + k) = X k := by
  unfold rhoA
  rw [if_pos (by omega), show 4 + k - 4 = k by omega]
theorem rhoA_fix {i : Nat} (h : i < 4 ∨ 32 ≤ i ∧ i < 1000) : rhoA ρb X V i = ρb i := by
  unfold rhoA
  rw [if_neg (by omega), if_neg (by omega)]
theorem rhoA_r33 (i : Nat) : rowB (rhoA ρb X V) 33 i = IntKind.u8.wrap (V i) := by
  unfold rowB rhoA rowIx
  rw [if_neg (by omega), if_pos (by omega), show (1000 + 64 * i + 33 - 1033) / 64 = i by omega]
theorem rhoA_row {a : Nat} (h1 : 32 ≤ a) (h2 : a < 64) (h3 : a ≠ 33) (i : Nat) : rowB (rhoA ρb X V) a i = rowB ρb a i := by
  unfold rowB rhoA rowIx
  rw [if_neg (by omega), if_neg (by omega)]
theorem rhoA_rs (p o : Nat) : ∀ n, rsZ (rhoA ρb X V) 32 p o n = rsZ ρb 32 p o n
  | 0 => rfl
  | n + 1 => by simp only [rsZ, rhoA_row (a := 32) (by decide) (by decide) (by decide), rhoA_rs p o n]
theorem foA {W : World} (h : FoOk ρb W) (h33 : ρb (fMark 33) ≠ 1) : FoOk (rhoA ρb X V) W := by
  intro a h1 h2 h3
  rw [rhoA_fix (.inr (by unfold fMark; omega))] at h3
  have ha : a ≠ 33 := fun e => h33 (by rw [e] at h3; exact h3)
  obtain ⟨q1, q2, q3⟩ := h a h1 h2 h3
  rw [rhoA_fix (i := a) (.inr (by omega)), rhoA_fix (i := fCap a) (.inr (by unfold fCap; omega)), rhoA_fix (i := fOff a) (.inr (by unfold fOff; omega)), rhoA_fix (i := fBlk a) (.inr (by unfold fBlk; omega))]
  refine ⟨q1, q2, fun i hi => ?_⟩
  rw [rhoA_row h1 h2 ha]
  exact q3 i hi
theorem fslA {φ : List Pl} : conc φ (rhoA ρb X V) (.fsl 32 zeroS zeroS (.var 32)) = conc φ ρb (.fsl 32 zeroS zeroS (.var 32)) := by
  simp only [conc, SI.ev, zeroS, rhoA_fix (ρb := ρb) (X := X) (V := V) (i := fMark 32) (.inr (by decide)), rhoA_fix (ρb := ρb) (X := X) (V := V) (i := fCap 32) (.inr (by decide)), rhoA_fix (ρb := ρb) (X := X) (V := V) (i := fBlk 32) (.inr (by decide)), rhoA_fix (ρb := ρb) (X := X) (V := V) (i := fOff 32) (.inr (by decide)), rhoA_fix (ρb := ρb) (X := X) (V := V) (i := 32) (.inr (by decide))]
end

/-! forms that speak of none of these -/
def onlyA : SI → Bool
  | .lit _ => true
  | .var i => decide (i < 4 ∨ i = 32)
  | .bin _ _ a b => onlyA a && onlyA b
  | .conv _ a => onlyA a
  | .fold a => onlyA a
  | .rs a _ o n => a == 32 && (onlyA o && onlyA n)
theorem onlyA_ev {ρb : Nat → Int} {X V : Nat → Int} : ∀ {e : SI}, onlyA e = true → e.ev (rhoA ρb X V) = e.ev ρb := by
  intro e
  induction e with
  | lit n => intro _; rfl
  | var i => intro h; exact rhoA_fix (by have := of_decide_eq_true (show decide (i < 4 ∨ i = 32) = true from h); omega)
  | bin op k a b iha ihb =>
    intro h
    simp only [onlyA, Bool.and_eq_true] at h
    simp only [SI.ev, iha h.1, ihb h.2]
  | conv k a ih => intro h; simp only [SI.ev, ih (show onlyA a = true from h)]
  | fold a ih => intro h; simp only [SI.ev, ih (show onlyA a = true from h)]
  | rs a p o n iho ihn =>
    intro h
    simp only [onlyA, Bool.and_eq_true, beq_iff_eq] at h
    obtain ⟨rfl, h1, h2⟩ := h
    simp only [SI.ev, iho h1, ihn h2, rhoA_rs]

/-! bytes of a head, letters in their places; the letters begin at the place o -/
def altB (m : Nat → Bool) (o : Nat) : Nat → List SI → List SI
  | _, [] => []
  | i, a :: l => (if m i then .var (4 + (i - o)) else a) :: altB m o (i + 1) l
theorem altB_get {m : Nat → Bool} {o : Nat} : ∀ {A : List SI} {k i : Nat}, (altB m o k A)[i]? = A[i]?.map fun a => if m (k + i) then .var (4 + (k + i - o)) else a
  | [], _, _ => by simp [altB]
  | a :: A, k, 0 => by simp [altB]
  | a :: A, k, i + 1 => by
    simp only [altB, List.getElem?_cons_succ, altB_get (A := A), show k + 1 + i = k + (i + 1) by omega]
def valA (ρb : Nat → Int) (A : List SI) (i : Nat) : Int := ((A.map (SI.ev ρb))[i]?).getD 0
def altX (ρb : Nat → Int) (A : List SI) (o j : Nat) (u : Int) : Nat → Int := fun i => if i + o = j then u else valA ρb A (i + o)
theorem altB_ev {ρb V : Nat → Int} {m : Nat → Bool} {o : Nat} {A : List SI} {j : Nat} {u : Int} (hA : A.all onlyA = true) (hm : m j = true) (hl : ∀ i, m i = true → o ≤ i ∧ i < o + 28) : (altB m o 0 A).map (SI.ev (rhoA ρb (altX ρb A o j u) V)) = (A.map (SI.ev ρb)).set j u := by
  apply List.ext_getElem?
  intro i
  rw [List.getElem?_map, altB_get, List.getElem?_set, List.getElem?_map]
  cases ha : A[i]? with
  | none =>
    have hi : A.length ≤ i := List.getElem?_eq_none_iff.1 ha
    by_cases hj : j = i
    · simp [hj, hi]
    · simp [hj]
  | some a =>
    have hi : i < A.length := (List.getElem?_eq_some_iff.1 ha).1
    have hoa : onlyA a = true := List.all_eq_true.1 hA _ (List.mem_of_getElem? ha)
    simp only [Option.map_some, Nat.zero_add]
    by_cases hmi : m i = true
    · rw [if_pos hmi]
      have := hl i hmi
      show some (rhoA ρb (altX ρb A o j u) V (4 + (i - o))) = _
      rw [rhoA_let (by omega)]
      unfold altX
      rw [show i - o + o = i by omega]
      by_cases hj : j = i
      · subst hj
        simp [hi]
      · rw [if_neg (fun e => hj e.symm), if_neg hj]
        unfold valA
        rw [List.getElem?_map, ha]
        rfl
    · rw [if_neg hmi, onlyA_ev hoa]
      have hj : ¬ j = i := fun e => hmi (e ▸ hm)
      rw [if_neg hj]
/-- forms that are bytes -/
def byteF : SI → Bool
  | .lit n => decide (0 ≤ n ∧ n ≤ 255)
  | .conv k _ => k == .u8
  | _ => false
theorem u8_in (x : Int) : 0 ≤ IntKind.u8.wrap x ∧ IntKind.u8.wrap x ≤ 255 := by
  simp only [IntKind.wrap, IntKind.bits, IntKind.signed]
  simp
  omega
theorem byteF_ev {ρ : Nat → Int} {e : SI} (h : byteF e = true) : 0 ≤ e.ev ρ ∧ e.ev ρ ≤ 255 := by
  cases e with
  | lit n => exact of_decide_eq_true (show decide (0 ≤ n ∧ n ≤ 255) = true from h)
  | conv k a =>
    have h : (k == .u8) = true := h
    obtain rfl := beq_iff_eq.1 h
    exact u8_in _
  | _ => cases h
theorem valA_in {ρb : Nat → Int} {A : List SI} (hA : A.all byteF = true) (i : Nat) : 0 ≤ valA ρb A i ∧ valA ρb A i ≤ 255 := by
  unfold valA
  rw [List.getElem?_map]
  cases ha : A[i]? with
  | none =>
    show (0 : Int) ≤ 0 ∧ (0 : Int) ≤ 255
    decide
  | some a => exact byteF_ev (List.all_eq_true.1 hA _ (List.mem_of_getElem? ha))
theorem altX_in {ρb : Nat → Int} {A : List SI} {o j : Nat} {u : Int} (hA : A.all byteF = true) (hu : 0 ≤ u ∧ u ≤ 255) (i : Nat) : 0 ≤ altX ρb A o j u i ∧ altX ρb A o j u i ≤ 255 := by
  unfold altX
  split
  · exact hu
  · exact valA_in hA _
/-- a byte in the midst of a rope -/
theorem sw_mid {ρ : Nat → Int} {pre rest : List Ch} {c c' : Ch} {j : Nat} {z u : Int} (hz : (c.zs ρ)[j]? = some z) (h : c'.zs ρ = (c.zs ρ).set j u) : (ropeZ ρ (pre ++ c :: rest))[(ropeZ ρ pre).length + j]? = some z ∧ ropeZ ρ (pre ++ c' :: rest) = (ropeZ ρ (pre ++ c :: rest)).set ((ropeZ ρ pre).length + j) u := by
  have hj : j < (c.zs ρ).length := (List.getElem?_eq_some_iff.1 hz).1
  rw [ropeZ_app, ropeZ_app, ropeZ_cons, ropeZ_cons, h]
  constructor
  · rw [List.getElem?_append_right (by omega), show (ropeZ ρ pre).length + j - (ropeZ ρ pre).length = j by omega, List.getElem?_append_left hj]
    exact hz
  · rw [List.set_append_right _ _ (by omega), show (ropeZ ρ pre).length + j - (ropeZ ρ pre).length = j by omega, List.set_append_left _ _ hj]
/-! the data's bytes -/
def altV (ρb : Nat → Int) (j : Nat) (u : Int) : Nat → Int := fun i => if i = j then u else rowB ρb 32 i
theorem altV_row {ρb X : Nat → Int} {j : Nat} {u : Int} (hu : 0 ≤ u ∧ u ≤ 255) (i : Nat) : rowB (rhoA ρb X (altV ρb j u)) 33 i = if i = j then u else rowB ρb 32 i := by
  rw [rhoA_r33]
  unfold altV
  split
  · exact wrap_in (k := .u8) ⟨by show (0 : Int) ≤ _; omega, by show _ ≤ (255 : Int); omega⟩
  · have := rowB_in ρb 32 i
    exact wrap_in (k := .u8) ⟨by show (0 : Int) ≤ _; omega, by show _ ≤ (255 : Int); omega⟩
theorem altV_zs {ρb X : Nat → Int} {j n : Nat} {u : Int} (hu : 0 ≤ u ∧ u ≤ 255) (hn : ρb 32 = n) (hj : j < n) :
    ((Ch.row 32 zeroS (.var 32)).zs (rhoA ρb X (altV ρb j u)))[j]? = some (rowB ρb 32 j) ∧ (Ch.row 33 zeroS (.var 32)).zs (rhoA ρb X (altV ρb j u)) = ((Ch.row 32 zeroS (.var 32)).zs (rhoA ρb X (altV ρb j u))).set j u := by
  have e32 : ((SI.var 32).ev (rhoA ρb X (altV ρb j u))).toNat = n := by
    show (rhoA ρb X (altV ρb j u) 32).toNat = n
    rw [rhoA_fix (.inr (by decide)), hn]
    rfl
  simp only [Ch.zs, e32, show (zeroS.ev (rhoA ρb X (altV ρb j u))).toNat = 0 from rfl, Nat.zero_add]
  constructor
  · rw [List.getElem?_map, List.getElem?_range hj, Option.map_some, rhoA_row (by decide) (by decide) (by decide)]
  · apply List.ext_getElem?
    intro i
    rw [List.getElem?_map, List.getElem?_set, List.getElem?_map, List.length_map, List.length_range]
    by_cases hi : i < n
    · rw [List.getElem?_range hi, Option.map_some, Option.map_some, altV_row hu, rhoA_row (by decide) (by decide) (by decide)]
      by_cases hij : j = i
      · rw [if_pos hij.symm, if_pos hij, if_pos (by omega)]
      · rw [if_neg (fun e => hij e.symm), if_neg hij]
    · rw [List.getElem?_eq_none (by rw [List.length_range]; omega)]
      by_cases hij : j = i
      · omega
      · rw [if_neg hij]
        rfl

/-! sums, plain: no number goes over its kind -/
def bdO (op : BinOp) (k : IntKind) (b : SI) (x : Nat) (y : Option Nat) : Option Nat := match op, k, b with
  | .add, .i64, _ => y.bind fun y => if x + y < 1099511627776 then some (x + y) else none
  | .shl, .i64, .lit (.ofNat s) => if s ≤ 16 ∧ x * 2 ^ s < 1099511627776 then some (x * 2 ^ s) else none
  | _, _, _ => none
def bdS : SI → Option Nat
  | .lit n => if 0 ≤ n ∧ n < 1099511627776 then some n.toNat else none
  | .var i => if 4 ≤ i ∧ i < 32 then some 255 else if i = 32 then some 1000 else none
  | .bin op k a b => (bdS a).bind fun x => bdO op k b x (bdS b)
  | .conv k a => if k = .u8 then some 255 else if k = .i64 then bdS a else none
  | .fold _ => none
  | .rs a _ _ n => match n with
    | .var 32 => if a = 32 ∨ a = 33 then some 65280000 else none
    | _ => none
def plnO (op : BinOp) (b : SI) (x y : Int) : Int := match op, b with
  | .add, _ => x + y
  | .shl, .lit (.ofNat s) => x * 2 ^ s
  | _, _ => 0
def plnS (ρ : Nat → Int) : SI → Int
  | .lit n => n
  | .var i => ρ i
  | .bin op _ a b => plnO op b (plnS ρ a) (plnS ρ b)
  | .conv k a => if k = .i64 then plnS ρ a else k.wrap (a.ev ρ)
  | .fold a => foldZ (a.ev ρ)
  | .rs a p o n => rsZ ρ a p (o.ev ρ).toNat (n.ev ρ).toNat
theorem wrapI {x : Int} (h0 : 0 ≤ x) (h1 : x < 1099511627776) : IntKind.i64.wrap x = x := by rw [wrap_i64']; omega
theorem bdS_ok {ρ : Nat → Int} (hρ : ∀ i, 4 ≤ i → i < 32 → 0 ≤ ρ i ∧ ρ i ≤ 255) (h32 : 0 ≤ ρ 32 ∧ ρ 32 ≤ 1000) : ∀ {e : SI} {m : Nat}, bdS e = some m → 0 ≤ plnS ρ e ∧ plnS ρ e ≤ m ∧ m < 1099511627776 ∧ e.ev ρ = plnS ρ e := by
  intro e
  induction e with
  | lit n =>
    intro m h
    simp only [bdS] at h
    split at h
    · cases h
      simp only [plnS, SI.ev]
      refine ⟨by omega, by omega, by omega, trivial⟩
    · cases h
  | var i =>
    intro m h
    simp only [bdS] at h
    split at h
    · rename_i hi
      cases h
      have := hρ i hi.1 hi.2
      exact ⟨this.1, this.2, by omega, rfl⟩
    · split at h
      · rename_i hi
        subst hi
        cases h
        exact ⟨h32.1, h32.2, by omega, rfl⟩
      · cases h
  | bin op k a b iha ihb =>
    intro m h
    simp only [bdS, Option.bind_eq_some_iff] at h
    obtain ⟨x, hx, h⟩ := h
    obtain ⟨a0, a1, a2, a3⟩ := iha hx
    unfold bdO at h
    split at h
    · simp only [Option.bind_eq_some_iff] at h
      obtain ⟨y, hy, h⟩ := h
      obtain ⟨b0, b1, b2, b3⟩ := ihb hy
      split at h
      · cases h
        simp only [plnS, plnO, SI.ev, a3, b3, binZ]
        refine ⟨by omega, by omega, by omega, wrapI (by omega) (by omega)⟩
      · cases h
    · rename_i s
      split at h
      · rename_i hs
        cases h
        simp only [plnS, plnO, SI.ev, a3, binZ]
        have hmin : min (Int.toNat (Int.ofNat s)) (IntKind.bits .i64) = s := by
          show min s 64 = s
          omega
        rw [hmin]
        have hp : (0 : Int) < 2 ^ s := Int.pow_pos (by decide)
        have h1 : 0 ≤ plnS ρ a * 2 ^ s := Int.mul_nonneg a0 (Int.le_of_lt hp)
        have h2 : plnS ρ a * 2 ^ s ≤ (x : Int) * 2 ^ s := Int.mul_le_mul_of_nonneg_right a1 (Int.le_of_lt hp)
        have h3 : ((x * 2 ^ s : Nat) : Int) = (x : Int) * 2 ^ s := by rw [Int.natCast_mul, Int.natCast_pow]; rfl
        refine ⟨h1, by omega, by omega, wrapI h1 (by omega)⟩
      · cases h
    · cases h
  | conv k a ih =>
    intro m h
    simp only [bdS] at h
    split at h
    · rename_i hk
      subst hk
      cases h
      have := u8_in (a.ev ρ)
      simp only [plnS, SI.ev, reduceCtorEq, if_false]
      exact ⟨this.1, this.2, by omega, trivial⟩
    · split at h
      · rename_i hk
        subst hk
        obtain ⟨a0, a1, a2, a3⟩ := ih h
        simp only [plnS, SI.ev, if_true, a3]
        exact ⟨a0, a1, a2, wrapI a0 (by omega)⟩
      · cases h
  | fold a ih => intro m h; cases h
  | rs a p o n iho ihn =>
    intro m h
    simp only [bdS] at h
    split at h
    · split at h
      · cases h
        have := rsZ_in ρ a p (o.ev ρ).toNat (ρ 32).toNat
        simp only [plnS, SI.ev]
        refine ⟨this.1, by omega, by omega, trivial⟩
      · cases h
    · cases h

/-- what it surely comes to -/
def lbS : SI → Nat
  | .lit n => n.toNat
  | .bin op _ a b => match op with
    | .add => lbS a + lbS b
    | _ => 0
  | _ => 0
theorem lbS_ok {ρ : Nat → Int} (hρ : ∀ i, 4 ≤ i → i < 32 → 0 ≤ ρ i ∧ ρ i ≤ 255) (h32 : 0 ≤ ρ 32 ∧ ρ 32 ≤ 1000) : ∀ {e : SI} {m : Nat}, bdS e = some m → (lbS e : Int) ≤ plnS ρ e := by
  intro e
  induction e with
  | lit n =>
    intro m h
    have := (bdS_ok hρ h32 h).1
    simp only [lbS, plnS] at *
    omega
  | bin op k a b iha ihb =>
    intro m h
    have h0 := (bdS_ok hρ h32 h).1
    cases op with
    | add =>
      simp only [bdS, Option.bind_eq_some_iff] at h
      obtain ⟨x, hx, h⟩ := h
      have ha := iha hx
      unfold bdO at h
      split at h
      · simp only [Option.bind_eq_some_iff] at h
        obtain ⟨y, hy, h⟩ := h
        have hb := ihb hy
        simp only [lbS, plnS, plnO]
        omega
      · rename_i he; cases he
      · cases h
    | _ => exact h0
  | _ => intro m h; exact (bdS_ok hρ h32 h).1
/-! what a letter, or the row, is worth in a sum -/
def coO (op : BinOp) (b : SI) (x y : Int) : Int := match op, b with
  | .add, _ => x + y
  | .shl, .lit (.ofNat s) => x * 2 ^ s
  | _, _ => 0
def coS (i : Nat) : SI → Int
  | .lit _ => 0
  | .var j => if j = i then 1 else 0
  | .bin op _ a b => coO op b (coS i a) (coS i b)
  | .conv k a => if k = .i64 then coS i a else 0
  | .fold _ => 0
  | .rs _ _ _ _ => 0
def frX : SI → Bool
  | .lit _ => true
  | .var _ => true
  | .bin op _ a b => frX a && (frX b)
  | .conv k a => if k = .i64 then frX a else onlyA a
  | .fold a => onlyA a
  | .rs a _ o n => a == 32 && (onlyA o && onlyA n)
theorem plnS_set {ρb V X X' : Nat → Int} {j : Nat} (hj : j < 28) (hX : ∀ i, i ≠ j → X i = X' i) : ∀ {e : SI}, frX e = true → plnS (rhoA ρb X V) e = plnS (rhoA ρb X' V) e + coS (4 + j) e * (X j - X' j) := by
  intro e
  induction e with
  | lit n => intro _; simp [plnS, coS]
  | var i =>
    intro _
    simp only [plnS, coS]
    by_cases hi : i = 4 + j
    · subst hi
      rw [rhoA_let hj, rhoA_let hj, if_pos rfl]
      omega
    · rw [if_neg hi]
      have : rhoA ρb X V i = rhoA ρb X' V i := by
        unfold rhoA
        split
        · exact hX _ (by omega)
        · rfl
      rw [this]
      omega
  | bin op k a b iha ihb =>
    intro h
    simp only [frX, Bool.and_eq_true] at h
    simp only [plnS, coS, iha h.1, ihb h.2]
    unfold plnO coO
    split
    · rw [Int.add_mul]; omega
    · rw [Int.add_mul, Int.mul_assoc, Int.mul_assoc, Int.mul_comm (X j - X' j)]
    · omega
  | conv k a ih =>
    intro h
    simp only [frX] at h
    simp only [plnS, coS]
    split
    · rename_i hk
      rw [if_pos hk] at h
      exact ih h
    · rename_i hk
      rw [if_neg hk] at h
      rw [onlyA_ev h, onlyA_ev h]
      omega
  | fold a ih =>
    intro h
    simp only [plnS, coS, onlyA_ev (show onlyA a = true from h)]
    omega
  | rs a p o n iho ihn =>
    intro h
    simp only [frX, Bool.and_eq_true, beq_iff_eq] at h
    obtain ⟨rfl, h1, h2⟩ := h
    simp only [plnS, coS, onlyA_ev h1, onlyA_ev h2, rhoA_rs]
    omega
def coR (q : Nat) : SI → Int
  | .lit _ => 0
  | .var _ => 0
  | .bin op _ a b => coO op b (coR q a) (coR q b)
  | .conv k a => if k = .i64 then coR q a else 0
  | .fold _ => 0
  | .rs a p _ _ => if a = 33 ∧ p = q then 1 else 0
def isV32 : SI → Bool
  | .var i => i == 32
  | _ => false
def isL0 : SI → Bool
  | .lit n => n == 0
  | _ => false
theorem isV32_eq {e : SI} (h : isV32 e = true) : e = .var 32 := by
  unfold isV32 at h
  split at h
  · rw [beq_iff_eq] at h; rw [h]
  · cases h
theorem isL0_eq {e : SI} (h : isL0 e = true) : e = .lit 0 := by
  unfold isL0 at h
  split at h
  · rw [beq_iff_eq] at h; rw [h]
  · cases h
def frR (q : Nat) : SI → Bool
  | .lit _ => true
  | .var i => decide (i < 1000)
  | .bin op _ a b => frR q a && (frR q b)
  | .conv k a => if k = .i64 then frR q a else onlyA a
  | .fold a => onlyA a
  | .rs a p o n => isL0 o && (isV32 n && (a == 32 || a == 33 && p == q))
theorem plnS_row {ρb V V' X : Nat → Int} {q : Nat} {D : Int} (hD : rsZ (rhoA ρb X V) 33 q 0 (ρb 32).toNat = rsZ (rhoA ρb X V') 33 q 0 (ρb 32).toNat + D) : ∀ {e : SI}, frR q e = true → plnS (rhoA ρb X V) e = plnS (rhoA ρb X V') e + coR q e * D := by
  intro e
  induction e with
  | lit n => intro _; simp [plnS, coR]
  | var i =>
    intro h
    have h := of_decide_eq_true (show decide (i < 1000) = true from h)
    have : rhoA ρb X V i = rhoA ρb X V' i := by
      unfold rhoA
      split
      · rfl
      · rw [if_neg (by omega), if_neg (by omega)]
    simp only [plnS, coR, this]
    omega
  | bin op k a b iha ihb =>
    intro h
    simp only [frR, Bool.and_eq_true] at h
    simp only [plnS, coR, iha h.1, ihb h.2]
    unfold plnO coO
    split
    · rw [Int.add_mul]; omega
    · rw [Int.add_mul, Int.mul_assoc, Int.mul_assoc, Int.mul_comm D]
    · omega
  | conv k a ih =>
    intro h
    simp only [frR] at h
    simp only [plnS, coR]
    split
    · rename_i hk
      rw [if_pos hk] at h
      exact ih h
    · rename_i hk
      rw [if_neg hk] at h
      rw [onlyA_ev h, onlyA_ev h]
      omega
  | fold a ih =>
    intro h
    have h : onlyA a = true := h
    simp only [plnS, coR, onlyA_ev h]
    omega
  | rs a p o n iho ihn =>
    intro h
    simp only [frR, Bool.and_eq_true, Bool.or_eq_true, beq_iff_eq] at h
    obtain ⟨h1, h2, h3⟩ := h
    obtain rfl := isL0_eq h1
    obtain rfl := isV32_eq h2
    have e32 : ∀ V, (rhoA ρb X V 32) = ρb 32 := fun V => rhoA_fix (.inr (by decide))
    simp only [plnS, coR, SI.ev, e32]
    rcases h3 with rfl | ⟨rfl, rfl⟩
    · rw [rhoA_rs, rhoA_rs, if_neg (fun h => absurd h.1 (by decide))]
      omega
    · rw [if_pos ⟨rfl, rfl⟩, Int.one_mul]
      exact hD

/-! a fact: the sum is not right -/
def notR (E : SI) : SB × Bool := (.cmp .eql (.bin .sub .i64 (.lit (.ofNat 65535)) (.fold E)) (.lit (.ofNat 0)), false)
theorem notR_ok {ρ : Nat → Int} {E : SI} (h0 : 0 < E.ev ρ) (h1 : E.ev ρ < 1099511627776) (h : E.ev ρ % 65535 ≠ 0) : (notR E).1.ev ρ = (notR E).2 := by
  have hf : ¬ foldZ (E.ev ρ) = 65535 := fun e => h ((fold_full h0 (by omega)).1 e)
  have a3 := foldZ_in ((E.ev ρ).toNat + 1) (E.ev ρ) (by omega) (by omega) (by omega)
  show cmpZ .eql (IntKind.i64.wrap (Int.ofNat 65535 - foldZ (E.ev ρ))) (Int.ofNat 0) = false
  have hw : IntKind.i64.wrap (Int.ofNat 65535 - foldZ (E.ev ρ)) = 65535 - foldZ (E.ev ρ) := by
    show IntKind.i64.wrap (65535 - foldZ (E.ev ρ)) = _
    rw [wrap_i64']; omega
  rw [hw]
  show (65535 - foldZ (E.ev ρ) == 0) = false
  rw [beq_eq_false_iff_ne]
  omega
/-- what is told of a number's two bytes -/
theorem hilo {x : Int} (h0 : 0 ≤ x) (h1 : x < 65536) : IntKind.u8.wrap (x.fdiv 256) * 256 + IntKind.u8.wrap x = x := by
  have e : x.fdiv 256 = x / 256 := Int.fdiv_eq_ediv_of_nonneg _ (by decide)
  rw [e]
  simp only [IntKind.wrap, IntKind.bits, IntKind.signed]
  simp
  omega
theorem ck_in {T : Int} (h0 : 0 < T) (h1 : T < 1099511627776) : 0 ≤ 65535 - foldZ T ∧ 65535 - foldZ T < 65535 ∧ (T + (65535 - foldZ T)) % 65535 = 0 := by
  have a1 := foldZ_mod (T.toNat + 1) T (by omega) (by omega) (by omega)
  have a2 := foldZ_pos (T.toNat + 1) T h0 (by omega) (by omega)
  have a3 := foldZ_in (T.toNat + 1) T (by omega) (by omega) (by omega)
  omega
end Go.Proofs.YtjjfmhaakickcaaGreat

/-
  HostAltered: every case.
-/
import Derived.Test.YtjjfmhaakickcaaGreatPaHA0
import Derived.Test.YtjjfmhaakickcaaGreatPaHA1
import Derived.Test.YtjjfmhaakickcaaGreatPaHA2
import Derived.Test.YtjjfmhaakickcaaGreatPaHA3
import Derived.Test.YtjjfmhaakickcaaGreatPaHA4
import Derived.Test.YtjjfmhaakickcaaGreatPaHA5
import Derived.Test.YtjjfmhaakickcaaGreatPaHA6
import Derived.Test.YtjjfmhaakickcaaGreatPaHA7
import Derived.Test.YtjjfmhaakickcaaGreatPaHA8
import Derived.Test.YtjjfmhaakickcaaGreatPaHA9
import Derived.Test.YtjjfmhaakickcaaGreatPaHA10
import Derived.Test.YtjjfmhaakickcaaGreatPaHA11
set_option linter.unusedVariables false
set_option linter.unusedSimpArgs false
namespace Go.Proofs.YtjjfmhaakickcaaGreat
open Go

abbrev dF : AV := .fsl 32 zeroS zeroS (.var 32)
abbrev dE : AV := .osl 300 0 303
theorem beg_row {W : World} {r : RowD} (k : r.Ok W) {h : Nat} (hh : h = 28 ∨ h = 40) (hn : r.n ≤ 1000) {a1 a2 : Int} (h1 : -9223372036854775808 ≤ a1 ∧ a1 ≤ 9223372036854775807) (h2 : 1 ≤ a2 ∧ a2 ≤ 255) : Beg W (rhoG [0, a1, a2, place a1 (r.n + h : Nat)] [r]) r.n h a1 a2 dF r.v where
  b0 := rfl
  b1 := rfl
  b2 := rfl
  b3 := rfl
  b32 := rfl
  bz := fun i g1 g2 => by
    unfold rhoG
    rw [if_pos g2, List.getD_eq_getElem?_getD, List.getElem?_eq_none (by show 4 ≤ i; exact g1)]
    rfl
  hL := hn
  hh := hh
  h1 := h1
  h2 := h2
  fo := foOk_rhoG (List.forall_mem_cons.2 ⟨k, fun x hx => by cases hx⟩)
  m33 := show ¬ ((0 : Int) = 1) by decide
  hd := fun X V => fslA.trans (conc_rhoG (by decide) (by decide) rfl k.le)
theorem beg_nil {W : World} {q : Option Addr} {n c : Nat} (hn : n = 0) {h : Nat} (hh : h = 28 ∨ h = 40) {a1 a2 : Int} (h1 : -9223372036854775808 ≤ a1 ∧ a1 ≤ 9223372036854775807) (h2 : 1 ≤ a2 ∧ a2 ≤ 255) : Beg W (rhoG [0, a1, a2, place a1 (0 + h : Nat)] [] [(q, c)]) 0 h a1 a2 dE (.slice q n c) where
  b0 := rfl
  b1 := rfl
  b2 := rfl
  b3 := rfl
  b32 := rfl
  bz := fun i g1 g2 => by
    unfold rhoG
    rw [if_pos g2, List.getD_eq_getElem?_getD, List.getElem?_eq_none (by show 4 ≤ i; exact g1)]
    rfl
  hL := Nat.zero_le _
  hh := hh
  h1 := h1
  h2 := h2
  fo := foOk_rhoG (fun x hx => by cases hx)
  m33 := show ¬ ((0 : Int) = 1) by decide
  hd := fun X V => by
    have := conc_osl (φ := []) (ms := [0, a1, a2, place a1 (0 + h : Nat)]) (rs := []) (ads := [(q, c)]) (k := 0) (i := 0) (n := n) (by decide) rfl (by rw [hn]; rfl)
    rw [← this]
    simp only [conc, adrL, Nat.mul_zero, Nat.add_zero, rhoA_fix (ρb := rhoG [0, a1, a2, place a1 (0 + h : Nat)] [] [(q, c)]) (X := X) (V := V) (i := 300) (.inr (by decide)), rhoA_fix (ρb := rhoG [0, a1, a2, place a1 (0 + h : Nat)] [] [(q, c)]) (X := X) (V := V) (i := 300 + 1) (.inr (by decide)), rhoA_fix (ρb := rhoG [0, a1, a2, place a1 (0 + h : Nat)] [] [(q, c)]) (X := X) (V := V) (i := 300 + 2) (.inr (by decide)), rhoA_fix (ρb := rhoG [0, a1, a2, place a1 (0 + h : Nat)] [] [(q, c)]) (X := X) (V := V) (i := 303) (.inr (by decide)), rhoA_fix (ρb := rhoG [0, a1, a2, place a1 (0 + h : Nat)] [] [(q, c)]) (X := X) (V := V) (i := 0) (.inl (by decide))]
section
variable {W : World} {ρb : Nat → Int} {L : Nat} {a1 a2 : Int} {d : AV} {dv : Value}
theorem all_ul (B : Beg W ρb L 28 a1 a2 dF dv) (hL : 18 ≤ L ∧ L ≤ 1000) : Calls Tryz.prog 3 #[dv, .int .i64 a1, .int .u8 a2, .bool false] W fun e w' => e = .returned (.bool true) ∧ Kp [] W w' := by
  have hpl := place_rg (x := a1) (y := ((L + 28 : Nat) : Int)) (by omega)
  have hE : ∀ ρ : Nat → Int, ρ 32 = (L : Nat) → SI.ev ρ (lnF 28) = (L + 28 : Nat) := (fun ρ h => by rw [len_ev (by rw [h]; omega) (by decide), h]; omega)
  have hln : ∀ ρ : Nat → Int, ρ 32 = (L : Nat) → 42 ≤ SI.ev ρ (lnF 42) := (fun ρ h => by rw [len_ev (by rw [h]; omega) (by decide), h]; omega)
  rcases (by omega : place a1 (L + 28 : Nat) ≤ 18 ∨ (19 ≤ place a1 (L + 28 : Nat) ∧ place a1 (L + 28 : Nat) ≤ 22) ∨ place a1 (L + 28 : Nat) = 23 ∨ place a1 (L + 28 : Nat) = 24 ∨ place a1 (L + 28 : Nat) = 25 ∨ place a1 (L + 28 : Nat) = 26 ∨ 27 ≤ place a1 (L + 28 : Nat)) with hc | hc | hc | hc | hc | hc | hc
  · exact B.k_ipU r_ul_ip hln hE (by omega) (by omega)
  · exact B.k_poU r_ul_po hln hE (by omega) hc
  · exact B.none r_ul_n23 hE (by omega) (by omega) (.inl rfl)
  · exact B.none r_ul_n24 hE (by omega) (by omega) (.inl rfl)
  · exact B.none r_ul_n25 hE (by omega) (by omega) (.inl rfl)
  · exact B.none r_ul_n26 hE (by omega) (by omega) (.inl rfl)
  · exact B.k_rowU r_ul_row (fun ρ h => by rw [len_ev (by rw [h]; omega) (by decide), h]; omega) hE (by omega) (by omega) hc (fun ρ e32 e3 x hx => by
      obtain rfl := List.mem_singleton.1 hx
      show cmpZ .lss (SI.ev ρ posA) (SI.ev ρ (lnF 42)) = true
      rw [pos_ev (by rw [e3]; omega), len_ev (by rw [e32]; omega) (by decide), e3, e32]
      show decide (_ < _) = true
      exact decide_eq_true (by omega))
theorem all_up (B : Beg W ρb L 28 a1 a2 dF dv) (hL : 1 ≤ L ∧ L ≤ 17) : Calls Tryz.prog 3 #[dv, .int .i64 a1, .int .u8 a2, .bool false] W fun e w' => e = .returned (.bool true) ∧ Kp [] W w' := by
  have hpl := place_rg (x := a1) (y := ((L + 28 : Nat) : Int)) (by omega)
  have hE : ∀ ρ : Nat → Int, ρ 32 = (L : Nat) → SI.ev ρ (lnF 28) = (L + 28 : Nat) := (fun ρ h => by rw [len_ev (by rw [h]; omega) (by decide), h]; omega)
  have hln : ∀ ρ : Nat → Int, ρ 32 = (L : Nat) → 42 ≤ SI.ev ρ (lN 60) := (fun ρ h => by show _ ≤ (60 : Int); omega)
  rcases (by omega : place a1 (L + 28 : Nat) ≤ 18 ∨ (19 ≤ place a1 (L + 28 : Nat) ∧ place a1 (L + 28 : Nat) ≤ 22) ∨ place a1 (L + 28 : Nat) = 23 ∨ place a1 (L + 28 : Nat) = 24 ∨ place a1 (L + 28 : Nat) = 25 ∨ place a1 (L + 28 : Nat) = 26 ∨ 27 ≤ place a1 (L + 28 : Nat)) with hc | hc | hc | hc | hc | hc | hc
  · exact B.k_ipU r_up_ip hln hE (by omega) (by omega)
  · exact B.k_poU r_up_po hln hE (by omega) hc
  · exact B.none r_up_n23 hE (by omega) (by omega) (.inl rfl)
  · exact B.none r_up_n24 hE (by omega) (by omega) (.inl rfl)
  · exact B.none r_up_n25 hE (by omega) (by omega) (.inl rfl)
  · exact B.none r_up_n26 hE (by omega) (by omega) (.inl rfl)
  · exact B.k_rowU r_up_row (fun ρ h => by show _ ≤ (60 : Int); omega) hE (by omega) (by omega) hc (fun ρ e32 e3 x hx => by cases hx)
theorem lo_tl (B : Beg W ρb L 40 a1 a2 dF dv) (hL : 6 ≤ L ∧ L ≤ 1000) (hp : place a1 (L + 40 : Nat) = 31) : Calls Tryz.prog 3 #[dv, .int .i64 a1, .int .u8 a2, .bool true] W fun e w' => e = .returned (.bool true) ∧ Kp [] W w' := by
  have hu := xor_byte (x := 80) (by omega) B.h2
  obtain ⟨v, hv⟩ : ∃ v : Nat, bits .xor .u8 80 a2 = v := ⟨_, (Int.toNat_of_nonneg hu.1).symm⟩
  have hp' : 31 ≤ place a1 (L + 40 : Nat) ∧ place a1 (L + 40 : Nat) ≤ 31 := by omega
  have hE : ∀ ρ : Nat → Int, ρ 32 = (L : Nat) → SI.ev ρ (lnF 40) = (L + 40 : Nat) := (fun ρ h => by rw [len_ev (by rw [h]; omega) (by decide), h]; omega)
  have hln : ∀ ρ : Nat → Int, ρ 32 = (L : Nat) → 54 ≤ SI.ev ρ (lnF 54) := (fun ρ h => by rw [len_ev (by rw [h]; omega) (by decide), h]; omega)
  rcases (by omega : v ≤ 79 ∨ (96 ≤ v ∧ v ≤ 111) ∨ (81 ≤ v ∧ v ≤ 95) ∨ (112 ≤ v ∧ v ≤ 127) ∨ (128 ≤ v ∧ v ≤ 143) ∨ (144 ≤ v ∧ v ≤ 159) ∨ (160 ≤ v ∧ v ≤ 175) ∨ (176 ≤ v ∧ v ≤ 191) ∨ (192 ≤ v ∧ v ≤ 207) ∨ (208 ≤ v ∧ v ≤ 223) ∨ (224 ≤ v ∧ v ≤ 239) ∨ (240 ≤ v ∧ v ≤ 255)) with hc | hc | hc | hc | hc | hc | hc | hc | hc | hc | hc | hc
  · exact B.k_loT r_tl_lo0 hln hE (by omega) hp' (by rw [hv]; omega)
  · exact B.k_loT r_tl_lo1 hln hE (by omega) hp' (by rw [hv]; omega)
  · rcases (by omega : v = 81 ∨ v = 82 ∨ v = 83 ∨ v = 84 ∨ v = 85 ∨ v = 86 ∨ v = 87 ∨ v = 88 ∨ v = 89 ∨ v = 90 ∨ v = 91 ∨ v = 92 ∨ v = 93 ∨ v = 94 ∨ v = 95) with hc | hc | hc | hc | hc | hc | hc | hc | hc | hc | hc | hc | hc | hc | hc
    · exact B.k_vaT (v := 81) (n := 20807) r_tl_va81 rfl (by kernel_rfl) ⟨by decide, by decide⟩ hln hE (by omega) hp (by rw [hv, hc])
    · exact B.k_vaT (v := 82) (n := 21063) r_tl_va82 rfl (by kernel_rfl) ⟨by decide, by decide⟩ hln hE (by omega) hp (by rw [hv, hc])
    · exact B.k_vaT (v := 83) (n := 21319) r_tl_va83 rfl (by kernel_rfl) ⟨by decide, by decide⟩ hln hE (by omega) hp (by rw [hv, hc])
    · exact B.k_vaT (v := 84) (n := 21575) r_tl_va84 rfl (by kernel_rfl) ⟨by decide, by decide⟩ hln hE (by omega) hp (by rw [hv, hc])
    · exact B.k_vaT (v := 85) (n := 21831) r_tl_va85 rfl (by kernel_rfl) ⟨by decide, by decide⟩ hln hE (by omega) hp (by rw [hv, hc])
    · exact B.k_vaT (v := 86) (n := 22087) r_tl_va86 rfl (by kernel_rfl) ⟨by decide, by decide⟩ hln hE (by omega) hp (by rw [hv, hc])
    · exact B.k_vaT (v := 87) (n := 22343) r_tl_va87 rfl (by kernel_rfl) ⟨by decide, by decide⟩ hln hE (by omega) hp (by rw [hv, hc])
    · exact B.k_vaT (v := 88) (n := 22599) r_tl_va88 rfl (by kernel_rfl) ⟨by decide, by decide⟩ hln hE (by omega) hp (by rw [hv, hc])
    · exact B.k_vaT (v := 89) (n := 22855) r_tl_va89 rfl (by kernel_rfl) ⟨by decide, by decide⟩ hln hE (by omega) hp (by rw [hv, hc])
    · exact B.k_vaT (v := 90) (n := 23111) r_tl_va90 rfl (by kernel_rfl) ⟨by decide, by decide⟩ hln hE (by omega) hp (by rw [hv, hc])
    · exact B.k_vaT (v := 91) (n := 23367) r_tl_va91 rfl (by kernel_rfl) ⟨by decide, by decide⟩ hln hE (by omega) hp (by rw [hv, hc])
    · exact B.k_vaT (v := 92) (n := 23623) r_tl_va92 rfl (by kernel_rfl) ⟨by decide, by decide⟩ hln hE (by omega) hp (by rw [hv, hc])
    · exact B.k_vaT (v := 93) (n := 23879) r_tl_va93 rfl (by kernel_rfl) ⟨by decide, by decide⟩ hln hE (by omega) hp (by rw [hv, hc])
    · exact B.k_vaT (v := 94) (n := 24135) r_tl_va94 rfl (by kernel_rfl) ⟨by decide, by decide⟩ hln hE (by omega) hp (by rw [hv, hc])
    · exact B.k_vaT (v := 95) (n := 24391) r_tl_va95 rfl (by kernel_rfl) ⟨by decide, by decide⟩ hln hE (by omega) hp (by rw [hv, hc])
  · rcases (by omega : L < 8 ∨ L = 8 ∨ 8 < L) with hc | hc | hc
    · exact B.k_loT r_tl_lo7a hln hE (by omega) hp' (by rw [hv]; omega)
    · exact B.k_loT r_tl_lo7b hln hE (by omega) hp' (by rw [hv]; omega)
    · exact B.k_loT r_tl_lo7c hln hE (by omega) hp' (by rw [hv]; omega)
  · rcases (by omega : L < 12 ∨ L = 12 ∨ 12 < L) with hc | hc | hc
    · exact B.k_loT r_tl_lo8a hln hE (by omega) hp' (by rw [hv]; omega)
    · exact B.k_loT r_tl_lo8b hln hE (by omega) hp' (by rw [hv]; omega)
    · exact B.k_loT r_tl_lo8c hln hE (by omega) hp' (by rw [hv]; omega)
  · rcases (by omega : L < 16 ∨ L = 16 ∨ 16 < L) with hc | hc | hc
    · exact B.k_loT r_tl_lo9a hln hE (by omega) hp' (by rw [hv]; omega)
    · exact B.k_loT r_tl_lo9b hln hE (by omega) hp' (by rw [hv]; omega)
    · exact B.k_loT r_tl_lo9c hln hE (by omega) hp' (by rw [hv]; omega)
  · rcases (by omega : L < 20 ∨ L = 20 ∨ 20 < L) with hc | hc | hc
    · exact B.k_loT r_tl_lo10a hln hE (by omega) hp' (by rw [hv]; omega)
    · exact B.k_loT r_tl_lo10b hln hE (by omega) hp' (by rw [hv]; omega)
    · exact B.k_loT r_tl_lo10c hln hE (by omega) hp' (by rw [hv]; omega)
  · rcases (by omega : L < 24 ∨ L = 24 ∨ 24 < L) with hc | hc | hc
    · exact B.k_loT r_tl_lo11a hln hE (by omega) hp' (by rw [hv]; omega)
    · exact B.k_loT r_tl_lo11b hln hE (by omega) hp' (by rw [hv]; omega)
    · exact B.k_loT r_tl_lo11c hln hE (by omega) hp' (by rw [hv]; omega)
  · rcases (by omega : L < 28 ∨ L = 28 ∨ 28 < L) with hc | hc | hc
    · exact B.k_loT r_tl_lo12a hln hE (by omega) hp' (by rw [hv]; omega)
    · exact B.k_loT r_tl_lo12b hln hE (by omega) hp' (by rw [hv]; omega)
    · exact B.k_loT r_tl_lo12c hln hE (by omega) hp' (by rw [hv]; omega)
  · rcases (by omega : L < 32 ∨ L = 32 ∨ 32 < L) with hc | hc | hc
    · exact B.k_loT r_tl_lo13a hln hE (by omega) hp' (by rw [hv]; omega)
    · exact B.k_loT r_tl_lo13b hln hE (by omega) hp' (by rw [hv]; omega)
    · exact B.k_loT r_tl_lo13c hln hE (by omega) hp' (by rw [hv]; omega)
  · rcases (by omega : L < 36 ∨ L = 36 ∨ 36 < L) with hc | hc | hc
    · exact B.k_loT r_tl_lo14a hln hE (by omega) hp' (by rw [hv]; omega)
    · exact B.k_loT r_tl_lo14b hln hE (by omega) hp' (by rw [hv]; omega)
    · exact B.k_loT r_tl_lo14c hln hE (by omega) hp' (by rw [hv]; omega)
  · rcases (by omega : L < 40 ∨ L = 40 ∨ 40 < L) with hc | hc | hc
    · exact B.k_loT r_tl_lo15a hln hE (by omega) hp' (by rw [hv]; omega)
    · exact B.k_loT r_tl_lo15b hln hE (by omega) hp' (by rw [hv]; omega)
    · exact B.k_loT r_tl_lo15c hln hE (by omega) hp' (by rw [hv]; omega)
theorem all_tl (B : Beg W ρb L 40 a1 a2 dF dv) (hL : 6 ≤ L ∧ L ≤ 1000) : Calls Tryz.prog 3 #[dv, .int .i64 a1, .int .u8 a2, .bool true] W fun e w' => e = .returned (.bool true) ∧ Kp [] W w' := by
  have hpl := place_rg (x := a1) (y := ((L + 40 : Nat) : Int)) (by omega)
  have hE : ∀ ρ : Nat → Int, ρ 32 = (L : Nat) → SI.ev ρ (lnF 40) = (L + 40 : Nat) := (fun ρ h => by rw [len_ev (by rw [h]; omega) (by decide), h]; omega)
  have hln : ∀ ρ : Nat → Int, ρ 32 = (L : Nat) → 54 ≤ SI.ev ρ (lnF 54) := (fun ρ h => by rw [len_ev (by rw [h]; omega) (by decide), h]; omega)
  rcases (by omega : place a1 (L + 40 : Nat) ≤ 18 ∨ place a1 (L + 40 : Nat) = 31 ∨ (19 ≤ place a1 (L + 40 : Nat) ∧ place a1 (L + 40 : Nat) ≤ 38 ∧ place a1 (L + 40 : Nat) ≠ 31) ∨ 39 ≤ place a1 (L + 40 : Nat)) with hc | hc | hc | hc
  · exact B.k_ipT r_tl_ip hln hE (by omega) (by omega)
  · exact lo_tl B hL hc
  · exact B.k_hdT r_tl_hd hln hE (by omega) ⟨hc.1, hc.2.1⟩ hc.2.2
  · exact B.k_rowT r_tl_row (fun ρ h => by rw [len_ev (by rw [h]; omega) (by decide), h]; omega) hE (by omega) (by omega) hc (fun ρ e32 e3 x hx => by
      obtain rfl := List.mem_singleton.1 hx
      show cmpZ .lss (SI.ev ρ posA) (SI.ev ρ (lnF 54)) = true
      rw [pos_ev (by rw [e3]; omega), len_ev (by rw [e32]; omega) (by decide), e3, e32]
      show decide (_ < _) = true
      exact decide_eq_true (by omega))
theorem lo_tp (B : Beg W ρb L 40 a1 a2 dF dv) (hL : 1 ≤ L ∧ L ≤ 5) (hp : place a1 (L + 40 : Nat) = 31) : Calls Tryz.prog 3 #[dv, .int .i64 a1, .int .u8 a2, .bool true] W fun e w' => e = .returned (.bool true) ∧ Kp [] W w' := by
  have hu := xor_byte (x := 80) (by omega) B.h2
  obtain ⟨v, hv⟩ : ∃ v : Nat, bits .xor .u8 80 a2 = v := ⟨_, (Int.toNat_of_nonneg hu.1).symm⟩
  have hp' : 31 ≤ place a1 (L + 40 : Nat) ∧ place a1 (L + 40 : Nat) ≤ 31 := by omega
  have hE : ∀ ρ : Nat → Int, ρ 32 = (L : Nat) → SI.ev ρ (lnF 40) = (L + 40 : Nat) := (fun ρ h => by rw [len_ev (by rw [h]; omega) (by decide), h]; omega)
  have hln : ∀ ρ : Nat → Int, ρ 32 = (L : Nat) → 54 ≤ SI.ev ρ (lN 60) := (fun ρ h => by show _ ≤ (60 : Int); omega)
  rcases (by omega : v ≤ 79 ∨ (96 ≤ v ∧ v ≤ 111 ∧ L ≤ 3) ∨ (96 ≤ v ∧ v ≤ 111 ∧ L = 4) ∨ (96 ≤ v ∧ v ≤ 111 ∧ L = 5) ∨ 112 ≤ v ∨ (81 ≤ v ∧ v ≤ 95)) with hc | hc | hc | hc | hc | hc
  · exact B.k_loT r_tp_lo0 hln hE (by omega) hp' (by rw [hv]; omega)
  · exact B.k_loT r_tp_lo6a hln hE (by omega) hp' (by rw [hv]; omega)
  · exact B.k_loT r_tp_lo6b hln hE (by omega) hp' (by rw [hv]; omega)
  · exact B.k_loT r_tp_lo6c hln hE (by omega) hp' (by rw [hv]; omega)
  · exact B.k_loT r_tp_lo7 hln hE (by omega) hp' (by rw [hv]; omega)
  · rcases (by omega : v = 81 ∨ v = 82 ∨ v = 83 ∨ v = 84 ∨ v = 85 ∨ v = 86 ∨ v = 87 ∨ v = 88 ∨ v = 89 ∨ v = 90 ∨ v = 91 ∨ v = 92 ∨ v = 93 ∨ v = 94 ∨ v = 95) with hc | hc | hc | hc | hc | hc | hc | hc | hc | hc | hc | hc | hc | hc | hc
    · exact B.k_vaT (v := 81) (n := 20807) r_tp_va81 rfl (by kernel_rfl) ⟨by decide, by decide⟩ hln hE (by omega) hp (by rw [hv, hc])
    · exact B.k_vaT (v := 82) (n := 21063) r_tp_va82 rfl (by kernel_rfl) ⟨by decide, by decide⟩ hln hE (by omega) hp (by rw [hv, hc])
    · exact B.k_vaT (v := 83) (n := 21319) r_tp_va83 rfl (by kernel_rfl) ⟨by decide, by decide⟩ hln hE (by omega) hp (by rw [hv, hc])
    · exact B.k_vaT (v := 84) (n := 21575) r_tp_va84 rfl (by kernel_rfl) ⟨by decide, by decide⟩ hln hE (by omega) hp (by rw [hv, hc])
    · exact B.k_vaT (v := 85) (n := 21831) r_tp_va85 rfl (by kernel_rfl) ⟨by decide, by decide⟩ hln hE (by omega) hp (by rw [hv, hc])
    · exact B.k_vaT (v := 86) (n := 22087) r_tp_va86 rfl (by kernel_rfl) ⟨by decide, by decide⟩ hln hE (by omega) hp (by rw [hv, hc])
    · exact B.k_vaT (v := 87) (n := 22343) r_tp_va87 rfl (by kernel_rfl) ⟨by decide, by decide⟩ hln hE (by omega) hp (by rw [hv, hc])
    · exact B.k_vaT (v := 88) (n := 22599) r_tp_va88 rfl (by kernel_rfl) ⟨by decide, by decide⟩ hln hE (by omega) hp (by rw [hv, hc])
    · exact B.k_vaT (v := 89) (n := 22855) r_tp_va89 rfl (by kernel_rfl) ⟨by decide, by decide⟩ hln hE (by omega) hp (by rw [hv, hc])
    · exact B.k_vaT (v := 90) (n := 23111) r_tp_va90 rfl (by kernel_rfl) ⟨by decide, by decide⟩ hln hE (by omega) hp (by rw [hv, hc])
    · exact B.k_vaT (v := 91) (n := 23367) r_tp_va91 rfl (by kernel_rfl) ⟨by decide, by decide⟩ hln hE (by omega) hp (by rw [hv, hc])
    · exact B.k_vaT (v := 92) (n := 23623) r_tp_va92 rfl (by kernel_rfl) ⟨by decide, by decide⟩ hln hE (by omega) hp (by rw [hv, hc])
    · exact B.k_vaT (v := 93) (n := 23879) r_tp_va93 rfl (by kernel_rfl) ⟨by decide, by decide⟩ hln hE (by omega) hp (by rw [hv, hc])
    · exact B.k_vaT (v := 94) (n := 24135) r_tp_va94 rfl (by kernel_rfl) ⟨by decide, by decide⟩ hln hE (by omega) hp (by rw [hv, hc])
    · exact B.k_vaT (v := 95) (n := 24391) r_tp_va95 rfl (by kernel_rfl) ⟨by decide, by decide⟩ hln hE (by omega) hp (by rw [hv, hc])
theorem all_tp (B : Beg W ρb L 40 a1 a2 dF dv) (hL : 1 ≤ L ∧ L ≤ 5) : Calls Tryz.prog 3 #[dv, .int .i64 a1, .int .u8 a2, .bool true] W fun e w' => e = .returned (.bool true) ∧ Kp [] W w' := by
  have hpl := place_rg (x := a1) (y := ((L + 40 : Nat) : Int)) (by omega)
  have hE : ∀ ρ : Nat → Int, ρ 32 = (L : Nat) → SI.ev ρ (lnF 40) = (L + 40 : Nat) := (fun ρ h => by rw [len_ev (by rw [h]; omega) (by decide), h]; omega)
  have hln : ∀ ρ : Nat → Int, ρ 32 = (L : Nat) → 54 ≤ SI.ev ρ (lN 60) := (fun ρ h => by show _ ≤ (60 : Int); omega)
  rcases (by omega : place a1 (L + 40 : Nat) ≤ 18 ∨ place a1 (L + 40 : Nat) = 31 ∨ (19 ≤ place a1 (L + 40 : Nat) ∧ place a1 (L + 40 : Nat) ≤ 38 ∧ place a1 (L + 40 : Nat) ≠ 31) ∨ 39 ≤ place a1 (L + 40 : Nat)) with hc | hc | hc | hc
  · exact B.k_ipT r_tp_ip hln hE (by omega) (by omega)
  · exact lo_tp B hL hc
  · exact B.k_hdT r_tp_hd hln hE (by omega) ⟨hc.1, hc.2.1⟩ hc.2.2
  · exact B.k_rowT r_tp_row (fun ρ h => by show _ ≤ (60 : Int); omega) hE (by omega) (by omega) hc (fun ρ e32 e3 x hx => by cases hx)
theorem all_ue (B : Beg W ρb 0 28 a1 a2 dE dv) : Calls Tryz.prog 3 #[dv, .int .i64 a1, .int .u8 a2, .bool false] W fun e w' => e = .returned (.bool true) ∧ Kp [] W w' := by
  have hpl := place_rg (x := a1) (y := ((0 + 28 : Nat) : Int)) (by omega)
  have hE : ∀ ρ : Nat → Int, ρ 32 = (0 : Nat) → SI.ev ρ (lN 28) = (0 + 28 : Nat) := (fun ρ h => by rfl)
  have hln : ∀ ρ : Nat → Int, ρ 32 = (0 : Nat) → 60 ≤ SI.ev ρ (lN 60) := (fun ρ h => by show _ ≤ (60 : Int); omega)
  rcases (by omega : place a1 (0 + 28 : Nat) ≤ 18 ∨ (19 ≤ place a1 (0 + 28 : Nat) ∧ place a1 (0 + 28 : Nat) ≤ 22) ∨ place a1 (0 + 28 : Nat) = 23 ∨ place a1 (0 + 28 : Nat) = 24 ∨ place a1 (0 + 28 : Nat) = 25 ∨ place a1 (0 + 28 : Nat) = 26) with hc | hc | hc | hc | hc | hc
  · exact B.k_ipUe r_ue_ip hln hE ⟨by decide, by decide⟩ (by omega)
  · exact B.k_poUe r_ue_po hln hE ⟨by decide, by decide⟩ hc
  · exact B.none r_ue_n23 hE (by omega) ⟨by decide, by decide⟩ (.inl rfl)
  · exact B.none r_ue_n24 hE (by omega) ⟨by decide, by decide⟩ (.inl rfl)
  · exact B.none r_ue_n25 hE (by omega) ⟨by decide, by decide⟩ (.inl rfl)
  · exact B.none r_ue_n26 hE (by omega) ⟨by decide, by decide⟩ (.inl rfl)
theorem lo_te (B : Beg W ρb 0 40 a1 a2 dE dv) (hp : place a1 (0 + 40 : Nat) = 31) : Calls Tryz.prog 3 #[dv, .int .i64 a1, .int .u8 a2, .bool true] W fun e w' => e = .returned (.bool true) ∧ Kp [] W w' := by
  have hu := xor_byte (x := 80) (by omega) B.h2
  obtain ⟨v, hv⟩ : ∃ v : Nat, bits .xor .u8 80 a2 = v := ⟨_, (Int.toNat_of_nonneg hu.1).symm⟩
  have hp' : 31 ≤ place a1 (0 + 40 : Nat) ∧ place a1 (0 + 40 : Nat) ≤ 31 := by omega
  have hE : ∀ ρ : Nat → Int, ρ 32 = (0 : Nat) → SI.ev ρ (lN 40) = (0 + 40 : Nat) := (fun ρ h => by rfl)
  have hln : ∀ ρ : Nat → Int, ρ 32 = (0 : Nat) → 54 ≤ SI.ev ρ (lN 60) := (fun ρ h => by show _ ≤ (60 : Int); omega)
  have hln : ∀ ρ : Nat → Int, ρ 32 = ((0 : Nat) : Int) → 60 ≤ SI.ev ρ (lN 60) := fun ρ h => by show (60 : Int) ≤ 60; decide
  rcases (by omega : v ≤ 79 ∨ 96 ≤ v ∨ (81 ≤ v ∧ v ≤ 95)) with hc | hc | hc
  · exact B.k_loTe r_te_lo0 hln hE ⟨by decide, by decide⟩ hp' (by rw [hv]; omega)
  · exact B.k_loTe r_te_lo1 hln hE ⟨by decide, by decide⟩ hp' (by rw [hv]; omega)
  · rcases (by omega : v = 81 ∨ v = 82 ∨ v = 83 ∨ v = 84 ∨ v = 85 ∨ v = 86 ∨ v = 87 ∨ v = 88 ∨ v = 89 ∨ v = 90 ∨ v = 91 ∨ v = 92 ∨ v = 93 ∨ v = 94 ∨ v = 95) with hc | hc | hc | hc | hc | hc | hc | hc | hc | hc | hc | hc | hc | hc | hc
    · exact B.k_vaTe (v := 81) (n := 20807) r_te_va81 rfl ⟨by decide, by decide⟩ hln hE ⟨by decide, by decide⟩ hp (by rw [hv, hc])
    · exact B.k_vaTe (v := 82) (n := 21063) r_te_va82 rfl ⟨by decide, by decide⟩ hln hE ⟨by decide, by decide⟩ hp (by rw [hv, hc])
    · exact B.k_vaTe (v := 83) (n := 21319) r_te_va83 rfl ⟨by decide, by decide⟩ hln hE ⟨by decide, by decide⟩ hp (by rw [hv, hc])
    · exact B.k_vaTe (v := 84) (n := 21575) r_te_va84 rfl ⟨by decide, by decide⟩ hln hE ⟨by decide, by decide⟩ hp (by rw [hv, hc])
    · exact B.k_vaTe (v := 85) (n := 21831) r_te_va85 rfl ⟨by decide, by decide⟩ hln hE ⟨by decide, by decide⟩ hp (by rw [hv, hc])
    · exact B.k_vaTe (v := 86) (n := 22087) r_te_va86 rfl ⟨by decide, by decide⟩ hln hE ⟨by decide, by decide⟩ hp (by rw [hv, hc])
    · exact B.k_vaTe (v := 87) (n := 22343) r_te_va87 rfl ⟨by decide, by decide⟩ hln hE ⟨by decide, by decide⟩ hp (by rw [hv, hc])
    · exact B.k_vaTe (v := 88) (n := 22599) r_te_va88 rfl ⟨by decide, by decide⟩ hln hE ⟨by decide, by decide⟩ hp (by rw [hv, hc])
    · exact B.k_vaTe (v := 89) (n := 22855) r_te_va89 rfl ⟨by decide, by decide⟩ hln hE ⟨by decide, by decide⟩ hp (by rw [hv, hc])
    · exact B.k_vaTe (v := 90) (n := 23111) r_te_va90 rfl ⟨by decide, by decide⟩ hln hE ⟨by decide, by decide⟩ hp (by rw [hv, hc])
    · exact B.k_vaTe (v := 91) (n := 23367) r_te_va91 rfl ⟨by decide, by decide⟩ hln hE ⟨by decide, by decide⟩ hp (by rw [hv, hc])
    · exact B.k_vaTe (v := 92) (n := 23623) r_te_va92 rfl ⟨by decide, by decide⟩ hln hE ⟨by decide, by decide⟩ hp (by rw [hv, hc])
    · exact B.k_vaTe (v := 93) (n := 23879) r_te_va93 rfl ⟨by decide, by decide⟩ hln hE ⟨by decide, by decide⟩ hp (by rw [hv, hc])
    · exact B.k_vaTe (v := 94) (n := 24135) r_te_va94 rfl ⟨by decide, by decide⟩ hln hE ⟨by decide, by decide⟩ hp (by rw [hv, hc])
    · exact B.k_vaTe (v := 95) (n := 24391) r_te_va95 rfl ⟨by decide, by decide⟩ hln hE ⟨by decide, by decide⟩ hp (by rw [hv, hc])
theorem all_te (B : Beg W ρb 0 40 a1 a2 dE dv) : Calls Tryz.prog 3 #[dv, .int .i64 a1, .int .u8 a2, .bool true] W fun e w' => e = .returned (.bool true) ∧ Kp [] W w' := by
  have hpl := place_rg (x := a1) (y := ((0 + 40 : Nat) : Int)) (by omega)
  have hE : ∀ ρ : Nat → Int, ρ 32 = (0 : Nat) → SI.ev ρ (lN 40) = (0 + 40 : Nat) := (fun ρ h => by rfl)
  have hln : ∀ ρ : Nat → Int, ρ 32 = (0 : Nat) → 60 ≤ SI.ev ρ (lN 60) := (fun ρ h => by show _ ≤ (60 : Int); omega)
  rcases (by omega : place a1 (0 + 40 : Nat) ≤ 18 ∨ place a1 (0 + 40 : Nat) = 31 ∨ (19 ≤ place a1 (0 + 40 : Nat) ∧ place a1 (0 + 40 : Nat) ≤ 38 ∧ place a1 (0 + 40 : Nat) ≠ 31)) with hc | hc | hc
  · exact B.k_ipTe r_te_ip hln hE ⟨by decide, by decide⟩ (by omega)
  · exact lo_te B hc
  · exact B.k_hdTe r_te_hd hln hE ⟨by decide, by decide⟩ ⟨hc.1, hc.2.1⟩ hc.2.2
end
theorem pUR_any (w : World) (r0 : RowD) (k0 : r0.Ok w) (h0 : 1 ≤ (r0.n : Int) ∧ (r0.n : Int) ≤ 1000) (a1 : Int) (h1 : -9223372036854775808 ≤ a1 ∧ a1 ≤ 9223372036854775807) (a2 : Int) (h2 : 1 ≤ a2 ∧ a2 ≤ 255) : Calls Tryz.prog 3 #[r0.v, .int .i64 a1, .int .u8 a2, .bool false] w fun e w' => e = .returned (.bool true) ∧ Kp [] w w' := by
  have B := beg_row k0 (h := 28) (by omega) (by omega) h1 h2
  rcases (by omega : r0.n ≤ 17 ∨ 18 ≤ r0.n) with hc | hc
  · exact all_up B (by omega)
  · exact all_ul B (by omega)
theorem pUE_any (w : World) (p0 : Option Addr) (n0 c0 : Nat) (h0 : 0 ≤ (n0 : Int) ∧ (n0 : Int) ≤ 0) (a1 : Int) (h1 : -9223372036854775808 ≤ a1 ∧ a1 ≤ 9223372036854775807) (a2 : Int) (h2 : 1 ≤ a2 ∧ a2 ≤ 255) : Calls Tryz.prog 3 #[.slice p0 n0 c0, .int .i64 a1, .int .u8 a2, .bool false] w fun e w' => e = .returned (.bool true) ∧ Kp [] w w' :=
  all_ue (beg_nil (by omega) (by omega) h1 h2)
theorem pTR_any (w : World) (r0 : RowD) (k0 : r0.Ok w) (h0 : 1 ≤ (r0.n : Int) ∧ (r0.n : Int) ≤ 1000) (a1 : Int) (h1 : -9223372036854775808 ≤ a1 ∧ a1 ≤ 9223372036854775807) (a2 : Int) (h2 : 1 ≤ a2 ∧ a2 ≤ 255) : Calls Tryz.prog 3 #[r0.v, .int .i64 a1, .int .u8 a2, .bool true] w fun e w' => e = .returned (.bool true) ∧ Kp [] w w' := by
  have B := beg_row k0 (h := 40) (by omega) (by omega) h1 h2
  rcases (by omega : r0.n ≤ 5 ∨ 6 ≤ r0.n) with hc | hc
  · exact all_tp B (by omega)
  · exact all_tl B (by omega)
theorem pTE_any (w : World) (p0 : Option Addr) (n0 c0 : Nat) (h0 : 0 ≤ (n0 : Int) ∧ (n0 : Int) ≤ 0) (a1 : Int) (h1 : -9223372036854775808 ≤ a1 ∧ a1 ≤ 9223372036854775807) (a2 : Int) (h2 : 1 ≤ a2 ∧ a2 ≤ 255) : Calls Tryz.prog 3 #[.slice p0 n0 c0, .int .i64 a1, .int .u8 a2, .bool true] w fun e w' => e = .returned (.bool true) ∧ Kp [] w w' :=
  all_te (beg_nil (by omega) (by omega) h1 h2)

end Go.Proofs.YtjjfmhaakickcaaGreat

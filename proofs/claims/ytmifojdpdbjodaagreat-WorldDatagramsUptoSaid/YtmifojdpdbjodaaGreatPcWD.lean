/-
  WorldDatagrams: every case.
-/
import Derived.Test.YtmifojdpdbjodaaGreatWdm
import Derived.Test.YtmifojdpdbjodaaGreatPaWD0
import Derived.Test.YtmifojdpdbjodaaGreatPaWD1
import Derived.Test.YtmifojdpdbjodaaGreatPaWD2
import Derived.Test.YtmifojdpdbjodaaGreatPaWD3
import Derived.Test.YtmifojdpdbjodaaGreatPaWD4
import Derived.Test.YtmifojdpdbjodaaGreatPaWD5
import Derived.Test.YtmifojdpdbjodaaGreatPaWD6
import Derived.Test.YtmifojdpdbjodaaGreatPaWD7
import Derived.Test.YtmifojdpdbjodaaGreatPaWD8
import Derived.Test.YtmifojdpdbjodaaGreatPaWD9
import Derived.Test.YtmifojdpdbjodaaGreatPaWD10
import Derived.Test.YtmifojdpdbjodaaGreatPaWD11
import Derived.Test.YtmifojdpdbjodaaGreatPaWD12
import Derived.Test.YtmifojdpdbjodaaGreatPaWD13
import Derived.Test.YtmifojdpdbjodaaGreatPaWD14
import Derived.Test.YtmifojdpdbjodaaGreatPaWD15
import Derived.Test.YtmifojdpdbjodaaGreatPaWD16
import Derived.Test.YtmifojdpdbjodaaGreatPaWD17
import Derived.Test.YtmifojdpdbjodaaGreatPaWD18
import Derived.Test.YtmifojdpdbjodaaGreatPaWD19
import Derived.Test.YtmifojdpdbjodaaGreatPaWD20
import Derived.Test.YtmifojdpdbjodaaGreatPaWD21
import Derived.Test.YtmifojdpdbjodaaGreatPaWD22
import Derived.Test.YtmifojdpdbjodaaGreatPaWD23
set_option linter.unusedVariables false
set_option linter.unusedSimpArgs false
namespace Go.Proofs.YtmifojdpdbjodaaGreat
open Go

theorem g0 {p : Pat} {j L : Nat} {i0 i1 : Int} (h : okF p j [] i0 i1 0 0 0 = true) (hL : 0 ≤ L ∧ L ≤ 0) : RunF p j L i0 i1 := ⟨j, [], 0, 0, 0, 0, h, ⟨by omega, by omega⟩, ⟨Int.le_refl _, Int.le_refl _⟩, fun ρ _ _ x hx => (by cases hx), .inl rfl⟩
theorem g1 {p : Pat} {j L : Nat} {i0 i1 : Int} (h : okF p j pp1 i0 i1 1 1472 17 = true) (hL : 1 ≤ L ∧ L ≤ 1472) : RunF p j L i0 i1 := ⟨j, pp1, 1, 1472, 17, padW 18 0 L, h, ⟨by omega, by omega⟩, padW_rg (by decide) (by omega), fun ρ h1 h2 => padP_okW (ρ := ρ) (n := 32) (p := 29) 18 0 17 1472 42 28 8 (by decide) (by decide) (by decide) (by decide) (by decide) (l := L) h1 (by omega) h2 rfl rfl rfl rfl rfl (.inl ⟨rfl, rfl⟩), .inl rfl⟩
theorem g2 {p : Pat} {j L : Nat} {i0 i1 : Int} (h : okF p (j + 1) pp2 i0 i1 1473 2952 25 = true) (hL : 1473 ≤ L ∧ L ≤ 2952) : RunF p j L i0 i1 := ⟨j + 1, pp2, 1473, 2952, 25, padW 18 1480 L, h, ⟨by omega, by omega⟩, padW_rg (by decide) (by omega), fun ρ h1 h2 => padP_okW (ρ := ρ) (n := 32) (p := 29) 18 1480 25 1472 42 28 8 (by decide) (by decide) (by decide) (by decide) (by decide) (l := L) h1 (by omega) h2 rfl rfl rfl rfl rfl (.inr rfl), .inr ⟨rfl, by omega⟩⟩
theorem g3 {p : Pat} {j L : Nat} {i0 i1 : Int} (h : okF p (j + 1) pp3 i0 i1 2953 4432 25 = true) (hL : 2953 ≤ L ∧ L ≤ 4432) : RunF p j L i0 i1 := ⟨j + 1, pp3, 2953, 4432, 25, padW 18 2960 L, h, ⟨by omega, by omega⟩, padW_rg (by decide) (by omega), fun ρ h1 h2 => padP_okW (ρ := ρ) (n := 32) (p := 29) 18 2960 25 1472 42 28 8 (by decide) (by decide) (by decide) (by decide) (by decide) (l := L) h1 (by omega) h2 rfl rfl rfl rfl rfl (.inr rfl), .inr ⟨rfl, by omega⟩⟩
theorem g4 {p : Pat} {j L : Nat} {i0 i1 : Int} (h : okF p (j + 1) pp4 i0 i1 4433 5912 25 = true) (hL : 4433 ≤ L ∧ L ≤ 5912) : RunF p j L i0 i1 := ⟨j + 1, pp4, 4433, 5912, 25, padW 18 4440 L, h, ⟨by omega, by omega⟩, padW_rg (by decide) (by omega), fun ρ h1 h2 => padP_okW (ρ := ρ) (n := 32) (p := 29) 18 4440 25 1472 42 28 8 (by decide) (by decide) (by decide) (by decide) (by decide) (l := L) h1 (by omega) h2 rfl rfl rfl rfl rfl (.inr rfl), .inr ⟨rfl, by omega⟩⟩
theorem g5 {p : Pat} {j L : Nat} {i0 i1 : Int} (h : okF p (j + 1) pp5 i0 i1 5913 7392 25 = true) (hL : 5913 ≤ L ∧ L ≤ 7392) : RunF p j L i0 i1 := ⟨j + 1, pp5, 5913, 7392, 25, padW 18 5920 L, h, ⟨by omega, by omega⟩, padW_rg (by decide) (by omega), fun ρ h1 h2 => padP_okW (ρ := ρ) (n := 32) (p := 29) 18 5920 25 1472 42 28 8 (by decide) (by decide) (by decide) (by decide) (by decide) (l := L) h1 (by omega) h2 rfl rfl rfl rfl rfl (.inr rfl), .inr ⟨rfl, by omega⟩⟩
theorem g6 {p : Pat} {j L : Nat} {i0 i1 : Int} (h : okF p (j + 1) pp6 i0 i1 7393 8872 25 = true) (hL : 7393 ≤ L ∧ L ≤ 8872) : RunF p j L i0 i1 := ⟨j + 1, pp6, 7393, 8872, 25, padW 18 7400 L, h, ⟨by omega, by omega⟩, padW_rg (by decide) (by omega), fun ρ h1 h2 => padP_okW (ρ := ρ) (n := 32) (p := 29) 18 7400 25 1472 42 28 8 (by decide) (by decide) (by decide) (by decide) (by decide) (l := L) h1 (by omega) h2 rfl rfl rfl rfl rfl (.inr rfl), .inr ⟨rfl, by omega⟩⟩
theorem g7 {p : Pat} {j L : Nat} {i0 i1 : Int} (h : okF p (j + 1) pp7 i0 i1 8873 10352 25 = true) (hL : 8873 ≤ L ∧ L ≤ 10352) : RunF p j L i0 i1 := ⟨j + 1, pp7, 8873, 10352, 25, padW 18 8880 L, h, ⟨by omega, by omega⟩, padW_rg (by decide) (by omega), fun ρ h1 h2 => padP_okW (ρ := ρ) (n := 32) (p := 29) 18 8880 25 1472 42 28 8 (by decide) (by decide) (by decide) (by decide) (by decide) (l := L) h1 (by omega) h2 rfl rfl rfl rfl rfl (.inr rfl), .inr ⟨rfl, by omega⟩⟩
theorem g8 {p : Pat} {j L : Nat} {i0 i1 : Int} (h : okF p (j + 1) pp8 i0 i1 10353 11832 25 = true) (hL : 10353 ≤ L ∧ L ≤ 11832) : RunF p j L i0 i1 := ⟨j + 1, pp8, 10353, 11832, 25, padW 18 10360 L, h, ⟨by omega, by omega⟩, padW_rg (by decide) (by omega), fun ρ h1 h2 => padP_okW (ρ := ρ) (n := 32) (p := 29) 18 10360 25 1472 42 28 8 (by decide) (by decide) (by decide) (by decide) (by decide) (l := L) h1 (by omega) h2 rfl rfl rfl rfl rfl (.inr rfl), .inr ⟨rfl, by omega⟩⟩
theorem g9 {p : Pat} {j L : Nat} {i0 i1 : Int} (h : okF p (j + 1) pp9 i0 i1 11833 13312 25 = true) (hL : 11833 ≤ L ∧ L ≤ 13312) : RunF p j L i0 i1 := ⟨j + 1, pp9, 11833, 13312, 25, padW 18 11840 L, h, ⟨by omega, by omega⟩, padW_rg (by decide) (by omega), fun ρ h1 h2 => padP_okW (ρ := ρ) (n := 32) (p := 29) 18 11840 25 1472 42 28 8 (by decide) (by decide) (by decide) (by decide) (by decide) (l := L) h1 (by omega) h2 rfl rfl rfl rfl rfl (.inr rfl), .inr ⟨rfl, by omega⟩⟩
theorem g10 {p : Pat} {j L : Nat} {i0 i1 : Int} (h : okF p (j + 1) pp10 i0 i1 13313 14792 25 = true) (hL : 13313 ≤ L ∧ L ≤ 14792) : RunF p j L i0 i1 := ⟨j + 1, pp10, 13313, 14792, 25, padW 18 13320 L, h, ⟨by omega, by omega⟩, padW_rg (by decide) (by omega), fun ρ h1 h2 => padP_okW (ρ := ρ) (n := 32) (p := 29) 18 13320 25 1472 42 28 8 (by decide) (by decide) (by decide) (by decide) (by decide) (l := L) h1 (by omega) h2 rfl rfl rfl rfl rfl (.inr rfl), .inr ⟨rfl, by omega⟩⟩
theorem g11 {p : Pat} {j L : Nat} {i0 i1 : Int} (h : okF p (j + 1) pp11 i0 i1 14793 16272 25 = true) (hL : 14793 ≤ L ∧ L ≤ 16272) : RunF p j L i0 i1 := ⟨j + 1, pp11, 14793, 16272, 25, padW 18 14800 L, h, ⟨by omega, by omega⟩, padW_rg (by decide) (by omega), fun ρ h1 h2 => padP_okW (ρ := ρ) (n := 32) (p := 29) 18 14800 25 1472 42 28 8 (by decide) (by decide) (by decide) (by decide) (by decide) (l := L) h1 (by omega) h2 rfl rfl rfl rfl rfl (.inr rfl), .inr ⟨rfl, by omega⟩⟩
theorem g12 {p : Pat} {j L : Nat} {i0 i1 : Int} (h : okF p (j + 1) pp12 i0 i1 16273 17752 25 = true) (hL : 16273 ≤ L ∧ L ≤ 17752) : RunF p j L i0 i1 := ⟨j + 1, pp12, 16273, 17752, 25, padW 18 16280 L, h, ⟨by omega, by omega⟩, padW_rg (by decide) (by omega), fun ρ h1 h2 => padP_okW (ρ := ρ) (n := 32) (p := 29) 18 16280 25 1472 42 28 8 (by decide) (by decide) (by decide) (by decide) (by decide) (l := L) h1 (by omega) h2 rfl rfl rfl rfl rfl (.inr rfl), .inr ⟨rfl, by omega⟩⟩
theorem g13 {p : Pat} {j L : Nat} {i0 i1 : Int} (h : okF p (j + 1) pp13 i0 i1 17753 19232 25 = true) (hL : 17753 ≤ L ∧ L ≤ 19232) : RunF p j L i0 i1 := ⟨j + 1, pp13, 17753, 19232, 25, padW 18 17760 L, h, ⟨by omega, by omega⟩, padW_rg (by decide) (by omega), fun ρ h1 h2 => padP_okW (ρ := ρ) (n := 32) (p := 29) 18 17760 25 1472 42 28 8 (by decide) (by decide) (by decide) (by decide) (by decide) (l := L) h1 (by omega) h2 rfl rfl rfl rfl rfl (.inr rfl), .inr ⟨rfl, by omega⟩⟩
theorem g14 {p : Pat} {j L : Nat} {i0 i1 : Int} (h : okF p (j + 1) pp14 i0 i1 19233 20000 25 = true) (hL : 19233 ≤ L ∧ L ≤ 20000) : RunF p j L i0 i1 := ⟨j + 1, pp14, 19233, 20000, 25, padW 18 19240 L, h, ⟨by omega, by omega⟩, padW_rg (by decide) (by omega), fun ρ h1 h2 => padP_okW (ρ := ρ) (n := 32) (p := 29) 18 19240 25 1472 42 28 8 (by decide) (by decide) (by decide) (by decide) (by decide) (l := L) h1 (by omega) h2 rfl rfl rfl rfl rfl (.inr rfl), .inr ⟨rfl, by omega⟩⟩
theorem f_I (L : Nat) (h : 1473 * 0 + L ≤ 20000) : RunF patI 0 L 0 0 := by
  rcases (by omega : (0 ≤ L ∧ L ≤ 0) ∨ (1 ≤ L ∧ L ≤ 1472) ∨ (1473 ≤ L ∧ L ≤ 2952) ∨ (2953 ≤ L ∧ L ≤ 4432) ∨ (4433 ≤ L ∧ L ≤ 5912) ∨ (5913 ≤ L ∧ L ≤ 7392) ∨ (7393 ≤ L ∧ L ≤ 8872) ∨ (8873 ≤ L ∧ L ≤ 10352) ∨ (10353 ≤ L ∧ L ≤ 11832) ∨ (11833 ≤ L ∧ L ≤ 13312) ∨ (13313 ≤ L ∧ L ≤ 14792) ∨ (14793 ≤ L ∧ L ≤ 16272) ∨ (16273 ≤ L ∧ L ≤ 17752) ∨ (17753 ≤ L ∧ L ≤ 19232) ∨ (19233 ≤ L ∧ L ≤ 20000)) with h | h | h | h | h | h | h | h | h | h | h | h | h | h | h
  · exact g0 r_I_0b h
  · exact g1 r_I_1 h
  · exact g2 r_I_2 h
  · exact g3 r_I_3 h
  · exact g4 r_I_4 h
  · exact g5 r_I_5 h
  · exact g6 r_I_6 h
  · exact g7 r_I_7 h
  · exact g8 r_I_8 h
  · exact g9 r_I_9 h
  · exact g10 r_I_10 h
  · exact g11 r_I_11 h
  · exact g12 r_I_12 h
  · exact g13 r_I_13 h
  · exact g14 r_I_14 h
theorem R_I : Runs patI 0 0 0 lI := ⟨patI_ok, fun i v => by kernel_rfl, fun i v => by kernel_rfl, r_I_0a, r_I_0n, f_I⟩
theorem f_0 (L : Nat) (h : 1473 * 0 + L ≤ 20000) : RunF (patW 0) 0 L 1 9 := by
  rcases (by omega : (0 ≤ L ∧ L ≤ 0) ∨ (1 ≤ L ∧ L ≤ 1472) ∨ (1473 ≤ L ∧ L ≤ 2952) ∨ (2953 ≤ L ∧ L ≤ 4432) ∨ (4433 ≤ L ∧ L ≤ 5912) ∨ (5913 ≤ L ∧ L ≤ 7392) ∨ (7393 ≤ L ∧ L ≤ 8872) ∨ (8873 ≤ L ∧ L ≤ 10352) ∨ (10353 ≤ L ∧ L ≤ 11832) ∨ (11833 ≤ L ∧ L ≤ 13312) ∨ (13313 ≤ L ∧ L ≤ 14792) ∨ (14793 ≤ L ∧ L ≤ 16272) ∨ (16273 ≤ L ∧ L ≤ 17752) ∨ (17753 ≤ L ∧ L ≤ 19232) ∨ (19233 ≤ L ∧ L ≤ 20000)) with h | h | h | h | h | h | h | h | h | h | h | h | h | h | h
  · exact g0 r_0_0b h
  · exact g1 r_0_1 h
  · exact g2 r_0_2 h
  · exact g3 r_0_3 h
  · exact g4 r_0_4 h
  · exact g5 r_0_5 h
  · exact g6 r_0_6 h
  · exact g7 r_0_7 h
  · exact g8 r_0_8 h
  · exact g9 r_0_9 h
  · exact g10 r_0_10 h
  · exact g11 r_0_11 h
  · exact g12 r_0_12 h
  · exact g13 r_0_13 h
  · exact g14 r_0_14 h
theorem R_0 : Runs (patW 0) 0 1 9 lW := ⟨patW_ok 0, fun i v => by kernel_rfl, fun i v => by kernel_rfl, r_0_0a, r_0_0n, f_0⟩
theorem f_1 (L : Nat) (h : 1473 * 1 + L ≤ 20000) : RunF (patW 1) 1 L 1 9 := by
  rcases (by omega : (0 ≤ L ∧ L ≤ 0) ∨ (1 ≤ L ∧ L ≤ 1472) ∨ (1473 ≤ L ∧ L ≤ 2952) ∨ (2953 ≤ L ∧ L ≤ 4432) ∨ (4433 ≤ L ∧ L ≤ 5912) ∨ (5913 ≤ L ∧ L ≤ 7392) ∨ (7393 ≤ L ∧ L ≤ 8872) ∨ (8873 ≤ L ∧ L ≤ 10352) ∨ (10353 ≤ L ∧ L ≤ 11832) ∨ (11833 ≤ L ∧ L ≤ 13312) ∨ (13313 ≤ L ∧ L ≤ 14792) ∨ (14793 ≤ L ∧ L ≤ 16272) ∨ (16273 ≤ L ∧ L ≤ 17752) ∨ (17753 ≤ L ∧ L ≤ 19232)) with h | h | h | h | h | h | h | h | h | h | h | h | h | h
  · exact g0 r_1_0b h
  · exact g1 r_1_1 h
  · exact g2 r_1_2 h
  · exact g3 r_1_3 h
  · exact g4 r_1_4 h
  · exact g5 r_1_5 h
  · exact g6 r_1_6 h
  · exact g7 r_1_7 h
  · exact g8 r_1_8 h
  · exact g9 r_1_9 h
  · exact g10 r_1_10 h
  · exact g11 r_1_11 h
  · exact g12 r_1_12 h
  · exact g13 r_1_13 h
theorem R_1 : Runs (patW 1) 1 1 9 lW := ⟨patW_ok 1, fun i v => by kernel_rfl, fun i v => by kernel_rfl, r_1_0a, r_1_0n, f_1⟩
theorem f_2 (L : Nat) (h : 1473 * 2 + L ≤ 20000) : RunF (patW 2) 2 L 1 9 := by
  rcases (by omega : (0 ≤ L ∧ L ≤ 0) ∨ (1 ≤ L ∧ L ≤ 1472) ∨ (1473 ≤ L ∧ L ≤ 2952) ∨ (2953 ≤ L ∧ L ≤ 4432) ∨ (4433 ≤ L ∧ L ≤ 5912) ∨ (5913 ≤ L ∧ L ≤ 7392) ∨ (7393 ≤ L ∧ L ≤ 8872) ∨ (8873 ≤ L ∧ L ≤ 10352) ∨ (10353 ≤ L ∧ L ≤ 11832) ∨ (11833 ≤ L ∧ L ≤ 13312) ∨ (13313 ≤ L ∧ L ≤ 14792) ∨ (14793 ≤ L ∧ L ≤ 16272) ∨ (16273 ≤ L ∧ L ≤ 17752)) with h | h | h | h | h | h | h | h | h | h | h | h | h
  · exact g0 r_2_0b h
  · exact g1 r_2_1 h
  · exact g2 r_2_2 h
  · exact g3 r_2_3 h
  · exact g4 r_2_4 h
  · exact g5 r_2_5 h
  · exact g6 r_2_6 h
  · exact g7 r_2_7 h
  · exact g8 r_2_8 h
  · exact g9 r_2_9 h
  · exact g10 r_2_10 h
  · exact g11 r_2_11 h
  · exact g12 r_2_12 h
theorem R_2 : Runs (patW 2) 2 1 9 lW := ⟨patW_ok 2, fun i v => by kernel_rfl, fun i v => by kernel_rfl, r_2_0a, r_2_0n, f_2⟩
theorem f_3 (L : Nat) (h : 1473 * 3 + L ≤ 20000) : RunF (patW 3) 3 L 1 9 := by
  rcases (by omega : (0 ≤ L ∧ L ≤ 0) ∨ (1 ≤ L ∧ L ≤ 1472) ∨ (1473 ≤ L ∧ L ≤ 2952) ∨ (2953 ≤ L ∧ L ≤ 4432) ∨ (4433 ≤ L ∧ L ≤ 5912) ∨ (5913 ≤ L ∧ L ≤ 7392) ∨ (7393 ≤ L ∧ L ≤ 8872) ∨ (8873 ≤ L ∧ L ≤ 10352) ∨ (10353 ≤ L ∧ L ≤ 11832) ∨ (11833 ≤ L ∧ L ≤ 13312) ∨ (13313 ≤ L ∧ L ≤ 14792) ∨ (14793 ≤ L ∧ L ≤ 16272)) with h | h | h | h | h | h | h | h | h | h | h | h
  · exact g0 r_3_0b h
  · exact g1 r_3_1 h
  · exact g2 r_3_2 h
  · exact g3 r_3_3 h
  · exact g4 r_3_4 h
  · exact g5 r_3_5 h
  · exact g6 r_3_6 h
  · exact g7 r_3_7 h
  · exact g8 r_3_8 h
  · exact g9 r_3_9 h
  · exact g10 r_3_10 h
  · exact g11 r_3_11 h
theorem R_3 : Runs (patW 3) 3 1 9 lW := ⟨patW_ok 3, fun i v => by kernel_rfl, fun i v => by kernel_rfl, r_3_0a, r_3_0n, f_3⟩
theorem f_4 (L : Nat) (h : 1473 * 4 + L ≤ 20000) : RunF (patW 4) 4 L 1 9 := by
  rcases (by omega : (0 ≤ L ∧ L ≤ 0) ∨ (1 ≤ L ∧ L ≤ 1472) ∨ (1473 ≤ L ∧ L ≤ 2952) ∨ (2953 ≤ L ∧ L ≤ 4432) ∨ (4433 ≤ L ∧ L ≤ 5912) ∨ (5913 ≤ L ∧ L ≤ 7392) ∨ (7393 ≤ L ∧ L ≤ 8872) ∨ (8873 ≤ L ∧ L ≤ 10352) ∨ (10353 ≤ L ∧ L ≤ 11832) ∨ (11833 ≤ L ∧ L ≤ 13312) ∨ (13313 ≤ L ∧ L ≤ 14792)) with h | h | h | h | h | h | h | h | h | h | h
  · exact g0 r_4_0b h
  · exact g1 r_4_1 h
  · exact g2 r_4_2 h
  · exact g3 r_4_3 h
  · exact g4 r_4_4 h
  · exact g5 r_4_5 h
  · exact g6 r_4_6 h
  · exact g7 r_4_7 h
  · exact g8 r_4_8 h
  · exact g9 r_4_9 h
  · exact g10 r_4_10 h
theorem R_4 : Runs (patW 4) 4 1 9 lW := ⟨patW_ok 4, fun i v => by kernel_rfl, fun i v => by kernel_rfl, r_4_0a, r_4_0n, f_4⟩
theorem f_5 (L : Nat) (h : 1473 * 5 + L ≤ 20000) : RunF (patW 5) 5 L 1 9 := by
  rcases (by omega : (0 ≤ L ∧ L ≤ 0) ∨ (1 ≤ L ∧ L ≤ 1472) ∨ (1473 ≤ L ∧ L ≤ 2952) ∨ (2953 ≤ L ∧ L ≤ 4432) ∨ (4433 ≤ L ∧ L ≤ 5912) ∨ (5913 ≤ L ∧ L ≤ 7392) ∨ (7393 ≤ L ∧ L ≤ 8872) ∨ (8873 ≤ L ∧ L ≤ 10352) ∨ (10353 ≤ L ∧ L ≤ 11832) ∨ (11833 ≤ L ∧ L ≤ 13312)) with h | h | h | h | h | h | h | h | h | h
  · exact g0 r_5_0b h
  · exact g1 r_5_1 h
  · exact g2 r_5_2 h
  · exact g3 r_5_3 h
  · exact g4 r_5_4 h
  · exact g5 r_5_5 h
  · exact g6 r_5_6 h
  · exact g7 r_5_7 h
  · exact g8 r_5_8 h
  · exact g9 r_5_9 h
theorem R_5 : Runs (patW 5) 5 1 9 lW := ⟨patW_ok 5, fun i v => by kernel_rfl, fun i v => by kernel_rfl, r_5_0a, r_5_0n, f_5⟩
theorem f_6 (L : Nat) (h : 1473 * 6 + L ≤ 20000) : RunF (patW 6) 6 L 1 9 := by
  rcases (by omega : (0 ≤ L ∧ L ≤ 0) ∨ (1 ≤ L ∧ L ≤ 1472) ∨ (1473 ≤ L ∧ L ≤ 2952) ∨ (2953 ≤ L ∧ L ≤ 4432) ∨ (4433 ≤ L ∧ L ≤ 5912) ∨ (5913 ≤ L ∧ L ≤ 7392) ∨ (7393 ≤ L ∧ L ≤ 8872) ∨ (8873 ≤ L ∧ L ≤ 10352) ∨ (10353 ≤ L ∧ L ≤ 11832)) with h | h | h | h | h | h | h | h | h
  · exact g0 r_6_0b h
  · exact g1 r_6_1 h
  · exact g2 r_6_2 h
  · exact g3 r_6_3 h
  · exact g4 r_6_4 h
  · exact g5 r_6_5 h
  · exact g6 r_6_6 h
  · exact g7 r_6_7 h
  · exact g8 r_6_8 h
theorem R_6 : Runs (patW 6) 6 1 9 lW := ⟨patW_ok 6, fun i v => by kernel_rfl, fun i v => by kernel_rfl, r_6_0a, r_6_0n, f_6⟩
theorem f_7 (L : Nat) (h : 1473 * 7 + L ≤ 20000) : RunF (patW 7) 7 L 1 9 := by
  rcases (by omega : (0 ≤ L ∧ L ≤ 0) ∨ (1 ≤ L ∧ L ≤ 1472) ∨ (1473 ≤ L ∧ L ≤ 2952) ∨ (2953 ≤ L ∧ L ≤ 4432) ∨ (4433 ≤ L ∧ L ≤ 5912) ∨ (5913 ≤ L ∧ L ≤ 7392) ∨ (7393 ≤ L ∧ L ≤ 8872) ∨ (8873 ≤ L ∧ L ≤ 10352)) with h | h | h | h | h | h | h | h
  · exact g0 r_7_0b h
  · exact g1 r_7_1 h
  · exact g2 r_7_2 h
  · exact g3 r_7_3 h
  · exact g4 r_7_4 h
  · exact g5 r_7_5 h
  · exact g6 r_7_6 h
  · exact g7 r_7_7 h
theorem R_7 : Runs (patW 7) 7 1 9 lW := ⟨patW_ok 7, fun i v => by kernel_rfl, fun i v => by kernel_rfl, r_7_0a, r_7_0n, f_7⟩
theorem f_8 (L : Nat) (h : 1473 * 8 + L ≤ 20000) : RunF (patW 8) 8 L 1 9 := by
  rcases (by omega : (0 ≤ L ∧ L ≤ 0) ∨ (1 ≤ L ∧ L ≤ 1472) ∨ (1473 ≤ L ∧ L ≤ 2952) ∨ (2953 ≤ L ∧ L ≤ 4432) ∨ (4433 ≤ L ∧ L ≤ 5912) ∨ (5913 ≤ L ∧ L ≤ 7392) ∨ (7393 ≤ L ∧ L ≤ 8872)) with h | h | h | h | h | h | h
  · exact g0 r_8_0b h
  · exact g1 r_8_1 h
  · exact g2 r_8_2 h
  · exact g3 r_8_3 h
  · exact g4 r_8_4 h
  · exact g5 r_8_5 h
  · exact g6 r_8_6 h
theorem R_8 : Runs (patW 8) 8 1 9 lW := ⟨patW_ok 8, fun i v => by kernel_rfl, fun i v => by kernel_rfl, r_8_0a, r_8_0n, f_8⟩
theorem f_9 (L : Nat) (h : 1473 * 9 + L ≤ 20000) : RunF (patW 9) 9 L 1 9 := by
  rcases (by omega : (0 ≤ L ∧ L ≤ 0) ∨ (1 ≤ L ∧ L ≤ 1472) ∨ (1473 ≤ L ∧ L ≤ 2952) ∨ (2953 ≤ L ∧ L ≤ 4432) ∨ (4433 ≤ L ∧ L ≤ 5912) ∨ (5913 ≤ L ∧ L ≤ 7392)) with h | h | h | h | h | h
  · exact g0 r_9_0b h
  · exact g1 r_9_1 h
  · exact g2 r_9_2 h
  · exact g3 r_9_3 h
  · exact g4 r_9_4 h
  · exact g5 r_9_5 h
theorem R_9 : Runs (patW 9) 9 1 9 lW := ⟨patW_ok 9, fun i v => by kernel_rfl, fun i v => by kernel_rfl, r_9_0a, r_9_0n, f_9⟩
theorem f_10 (L : Nat) (h : 1473 * 10 + L ≤ 20000) : RunF (patW 10) 10 L 1 9 := by
  rcases (by omega : (0 ≤ L ∧ L ≤ 0) ∨ (1 ≤ L ∧ L ≤ 1472) ∨ (1473 ≤ L ∧ L ≤ 2952) ∨ (2953 ≤ L ∧ L ≤ 4432) ∨ (4433 ≤ L ∧ L ≤ 5912)) with h | h | h | h | h
  · exact g0 r_10_0b h
  · exact g1 r_10_1 h
  · exact g2 r_10_2 h
  · exact g3 r_10_3 h
  · exact g4 r_10_4 h
theorem R_10 : Runs (patW 10) 10 1 9 lW := ⟨patW_ok 10, fun i v => by kernel_rfl, fun i v => by kernel_rfl, r_10_0a, r_10_0n, f_10⟩
theorem f_11 (L : Nat) (h : 1473 * 11 + L ≤ 20000) : RunF (patW 11) 11 L 1 9 := by
  rcases (by omega : (0 ≤ L ∧ L ≤ 0) ∨ (1 ≤ L ∧ L ≤ 1472) ∨ (1473 ≤ L ∧ L ≤ 2952) ∨ (2953 ≤ L ∧ L ≤ 4432)) with h | h | h | h
  · exact g0 r_11_0b h
  · exact g1 r_11_1 h
  · exact g2 r_11_2 h
  · exact g3 r_11_3 h
theorem R_11 : Runs (patW 11) 11 1 9 lW := ⟨patW_ok 11, fun i v => by kernel_rfl, fun i v => by kernel_rfl, r_11_0a, r_11_0n, f_11⟩
theorem f_12 (L : Nat) (h : 1473 * 12 + L ≤ 20000) : RunF (patW 12) 12 L 1 9 := by
  rcases (by omega : (0 ≤ L ∧ L ≤ 0) ∨ (1 ≤ L ∧ L ≤ 1472) ∨ (1473 ≤ L ∧ L ≤ 2952)) with h | h | h
  · exact g0 r_12_0b h
  · exact g1 r_12_1 h
  · exact g2 r_12_2 h
theorem R_12 : Runs (patW 12) 12 1 9 lW := ⟨patW_ok 12, fun i v => by kernel_rfl, fun i v => by kernel_rfl, r_12_0a, r_12_0n, f_12⟩
theorem f_13 (L : Nat) (h : 1473 * 13 + L ≤ 20000) : RunF (patW 13) 13 L 1 9 := by
  rcases (by omega : (0 ≤ L ∧ L ≤ 0) ∨ (1 ≤ L ∧ L ≤ 1472)) with h | h
  · exact g0 r_13_0b h
  · exact g1 r_13_1 h
theorem R_13 : Runs (patW 13) 13 1 9 lW := ⟨patW_ok 13, fun i v => by kernel_rfl, fun i v => by kernel_rfl, r_13_0a, r_13_0n, f_13⟩
theorem R_W (j : Nat) (h : j ≤ 13) : Runs (patW j) j 1 9 lW := by
  match j, h with
  | 0, _ => exact R_0
  | 1, _ => exact R_1
  | 2, _ => exact R_2
  | 3, _ => exact R_3
  | 4, _ => exact R_4
  | 5, _ => exact R_5
  | 6, _ => exact R_6
  | 7, _ => exact R_7
  | 8, _ => exact R_8
  | 9, _ => exact R_9
  | 10, _ => exact R_10
  | 11, _ => exact R_11
  | 12, _ => exact R_12
  | 13, _ => exact R_13
  | j + 14, h => exact absurd h (by omega)
theorem e_W (j : Nat) (h : j ≤ 13) : allE (exitR (patW j) (moreF false) (rgW 1 10 0 0 0)) (moreF false) = true := by
  match j, h with
  | 0, _ => exact e_0
  | 1, _ => exact e_1
  | 2, _ => exact e_2
  | 3, _ => exact e_3
  | 4, _ => exact e_4
  | 5, _ => exact e_5
  | 6, _ => exact e_6
  | 7, _ => exact e_7
  | 8, _ => exact e_8
  | 9, _ => exact e_9
  | 10, _ => exact e_10
  | 11, _ => exact e_11
  | 12, _ => exact e_12
  | 13, _ => exact e_13
  | j + 14, h => exact absurd h (by omega)
theorem allR : AllR := ⟨R_I, R_W, e_I, e_W⟩

end Go.Proofs.YtmifojdpdbjodaaGreat

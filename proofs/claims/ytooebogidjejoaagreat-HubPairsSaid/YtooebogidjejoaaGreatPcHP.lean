/-
  HubPairs: what the runs say, all together.
-/
import Derived.Test.YtooebogidjejoaaGreatHpm
import Derived.Test.YtooebogidjejoaaGreatPaHP0
import Derived.Test.YtooebogidjejoaaGreatPaHP1
import Derived.Test.YtooebogidjejoaaGreatPaHP2
import Derived.Test.YtooebogidjejoaaGreatPaHP3
import Derived.Test.YtooebogidjejoaaGreatPaHP4
import Derived.Test.YtooebogidjejoaaGreatPaHP5
import Derived.Test.YtooebogidjejoaaGreatPaHP6
import Derived.Test.YtooebogidjejoaaGreatPaHP7
import Derived.Test.YtooebogidjejoaaGreatPaHP8
import Derived.Test.YtooebogidjejoaaGreatPaHP9
import Derived.Test.YtooebogidjejoaaGreatPaHP10
import Derived.Test.YtooebogidjejoaaGreatPaHP11
import Derived.Test.YtooebogidjejoaaGreatPaHP12
import Derived.Test.YtooebogidjejoaaGreatPaHP13
import Derived.Test.YtooebogidjejoaaGreatPaHP14
import Derived.Test.YtooebogidjejoaaGreatPaHP15
import Derived.Test.YtooebogidjejoaaGreatPaHP16
import Derived.Test.YtooebogidjejoaaGreatPaHP17
import Derived.Test.YtooebogidjejoaaGreatPaHP18
import Derived.Test.YtooebogidjejoaaGreatPaHP19
import Derived.Test.YtooebogidjejoaaGreatPaHP20
import Derived.Test.YtooebogidjejoaaGreatPaHP21
import Derived.Test.YtooebogidjejoaaGreatPaHP22
import Derived.Test.YtooebogidjejoaaGreatPaHP23
import Derived.Test.YtooebogidjejoaaGreatPaHP24
import Derived.Test.YtooebogidjejoaaGreatPaHP25
import Derived.Test.YtooebogidjejoaaGreatPaHP26
import Derived.Test.YtooebogidjejoaaGreatPaHP27
set_option linter.unusedVariables false
set_option linter.unusedSimpArgs false
namespace Go.Proofs.YtooebogidjejoaaGreat
open Go

theorem a_o : ∀ i, i < 30 → hpO i = true := fun i h => match i, h with
  | 0, _ => g_o0
  | 1, _ => g_o1
  | 2, _ => g_o2
  | 3, _ => g_o3
  | 4, _ => g_o4
  | 5, _ => g_o5
  | 6, _ => g_o6
  | 7, _ => g_o7
  | 8, _ => g_o8
  | 9, _ => g_o9
  | 10, _ => g_o10
  | 11, _ => g_o11
  | 12, _ => g_o12
  | 13, _ => g_o13
  | 14, _ => g_o14
  | 15, _ => g_o15
  | 16, _ => g_o16
  | 17, _ => g_o17
  | 18, _ => g_o18
  | 19, _ => g_o19
  | 20, _ => g_o20
  | 21, _ => g_o21
  | 22, _ => g_o22
  | 23, _ => g_o23
  | 24, _ => g_o24
  | 25, _ => g_o25
  | 26, _ => g_o26
  | 27, _ => g_o27
  | 28, _ => g_o28
  | 29, _ => g_o29
  | k + 30, h => absurd h (by omega)
theorem a_l : ∀ i, i < 30 → hpL i = true := fun i h => match i, h with
  | 0, _ => g_l0
  | 1, _ => g_l1
  | 2, _ => g_l2
  | 3, _ => g_l3
  | 4, _ => g_l4
  | 5, _ => g_l5
  | 6, _ => g_l6
  | 7, _ => g_l7
  | 8, _ => g_l8
  | 9, _ => g_l9
  | 10, _ => g_l10
  | 11, _ => g_l11
  | 12, _ => g_l12
  | 13, _ => g_l13
  | 14, _ => g_l14
  | 15, _ => g_l15
  | 16, _ => g_l16
  | 17, _ => g_l17
  | 18, _ => g_l18
  | 19, _ => g_l19
  | 20, _ => g_l20
  | 21, _ => g_l21
  | 22, _ => g_l22
  | 23, _ => g_l23
  | 24, _ => g_l24
  | 25, _ => g_l25
  | 26, _ => g_l26
  | 27, _ => g_l27
  | 28, _ => g_l28
  | 29, _ => g_l29
  | k + 30, h => absurd h (by omega)
theorem a_e : ∀ i, i < 30 → hpE i = true := fun i h => match i, h with
  | 0, _ => g_e0
  | 1, _ => g_e1
  | 2, _ => g_e2
  | 3, _ => g_e3
  | 4, _ => g_e4
  | 5, _ => g_e5
  | 6, _ => g_e6
  | 7, _ => g_e7
  | 8, _ => g_e8
  | 9, _ => g_e9
  | 10, _ => g_e10
  | 11, _ => g_e11
  | 12, _ => g_e12
  | 13, _ => g_e13
  | 14, _ => g_e14
  | 15, _ => g_e15
  | 16, _ => g_e16
  | 17, _ => g_e17
  | 18, _ => g_e18
  | 19, _ => g_e19
  | 20, _ => g_e20
  | 21, _ => g_e21
  | 22, _ => g_e22
  | 23, _ => g_e23
  | 24, _ => g_e24
  | 25, _ => g_e25
  | 26, _ => g_e26
  | 27, _ => g_e27
  | 28, _ => g_e28
  | 29, _ => g_e29
  | k + 30, h => absurd h (by omega)
theorem a_z : ∀ i, i < 30 → hpZ i = true := fun i h => match i, h with
  | 0, _ => g_z0
  | 1, _ => g_z1
  | 2, _ => g_z2
  | 3, _ => g_z3
  | 4, _ => g_z4
  | 5, _ => g_z5
  | 6, _ => g_z6
  | 7, _ => g_z7
  | 8, _ => g_z8
  | 9, _ => g_z9
  | 10, _ => g_z10
  | 11, _ => g_z11
  | 12, _ => g_z12
  | 13, _ => g_z13
  | 14, _ => g_z14
  | 15, _ => g_z15
  | 16, _ => g_z16
  | 17, _ => g_z17
  | 18, _ => g_z18
  | 19, _ => g_z19
  | 20, _ => g_z20
  | 21, _ => g_z21
  | 22, _ => g_z22
  | 23, _ => g_z23
  | 24, _ => g_z24
  | 25, _ => g_z25
  | 26, _ => g_z26
  | 27, _ => g_z27
  | 28, _ => g_z28
  | 29, _ => g_z29
  | k + 30, h => absurd h (by omega)
theorem a_x : ∀ i, i < 31 → hpX i = true := fun i h => match i, h with
  | 0, _ => g_x0
  | 1, _ => g_x1
  | 2, _ => g_x2
  | 3, _ => g_x3
  | 4, _ => g_x4
  | 5, _ => g_x5
  | 6, _ => g_x6
  | 7, _ => g_x7
  | 8, _ => g_x8
  | 9, _ => g_x9
  | 10, _ => g_x10
  | 11, _ => g_x11
  | 12, _ => g_x12
  | 13, _ => g_x13
  | 14, _ => g_x14
  | 15, _ => g_x15
  | 16, _ => g_x16
  | 17, _ => g_x17
  | 18, _ => g_x18
  | 19, _ => g_x19
  | 20, _ => g_x20
  | 21, _ => g_x21
  | 22, _ => g_x22
  | 23, _ => g_x23
  | 24, _ => g_x24
  | 25, _ => g_x25
  | 26, _ => g_x26
  | 27, _ => g_x27
  | 28, _ => g_x28
  | 29, _ => g_x29
  | 30, _ => g_x30
  | k + 31, h => absurd h (by omega)
theorem a_y : ∀ i, i < 31 → hpY i = true := fun i h => match i, h with
  | 0, _ => g_y0
  | 1, _ => g_y1
  | 2, _ => g_y2
  | 3, _ => g_y3
  | 4, _ => g_y4
  | 5, _ => g_y5
  | 6, _ => g_y6
  | 7, _ => g_y7
  | 8, _ => g_y8
  | 9, _ => g_y9
  | 10, _ => g_y10
  | 11, _ => g_y11
  | 12, _ => g_y12
  | 13, _ => g_y13
  | 14, _ => g_y14
  | 15, _ => g_y15
  | 16, _ => g_y16
  | 17, _ => g_y17
  | 18, _ => g_y18
  | 19, _ => g_y19
  | 20, _ => g_y20
  | 21, _ => g_y21
  | 22, _ => g_y22
  | 23, _ => g_y23
  | 24, _ => g_y24
  | 25, _ => g_y25
  | 26, _ => g_y26
  | 27, _ => g_y27
  | 28, _ => g_y28
  | 29, _ => g_y29
  | 30, _ => g_y30
  | k + 31, h => absurd h (by omega)
theorem a_w : ∀ i, i < 31 → hpW i = true := fun i h => match i, h with
  | 0, _ => g_w0
  | 1, _ => g_w1
  | 2, _ => g_w2
  | 3, _ => g_w3
  | 4, _ => g_w4
  | 5, _ => g_w5
  | 6, _ => g_w6
  | 7, _ => g_w7
  | 8, _ => g_w8
  | 9, _ => g_w9
  | 10, _ => g_w10
  | 11, _ => g_w11
  | 12, _ => g_w12
  | 13, _ => g_w13
  | 14, _ => g_w14
  | 15, _ => g_w15
  | 16, _ => g_w16
  | 17, _ => g_w17
  | 18, _ => g_w18
  | 19, _ => g_w19
  | 20, _ => g_w20
  | 21, _ => g_w21
  | 22, _ => g_w22
  | 23, _ => g_w23
  | 24, _ => g_w24
  | 25, _ => g_w25
  | 26, _ => g_w26
  | 27, _ => g_w27
  | 28, _ => g_w28
  | 29, _ => g_w29
  | 30, _ => g_w30
  | k + 31, h => absurd h (by omega)
theorem a_s0 : ∀ i, i < 0 → hpS 0 i = true := fun i h => absurd h (by omega)
theorem a_s1 : ∀ i, i < 1 → hpS 1 i = true := fun i h => match i, h with
  | 0, _ => g_s1_0
  | k + 1, h => absurd h (by omega)
theorem a_s2 : ∀ i, i < 2 → hpS 2 i = true := fun i h => match i, h with
  | 0, _ => g_s2_0
  | 1, _ => g_s2_1
  | k + 2, h => absurd h (by omega)
theorem a_s3 : ∀ i, i < 3 → hpS 3 i = true := fun i h => match i, h with
  | 0, _ => g_s3_0
  | 1, _ => g_s3_1
  | 2, _ => g_s3_2
  | k + 3, h => absurd h (by omega)
theorem a_s4 : ∀ i, i < 4 → hpS 4 i = true := fun i h => match i, h with
  | 0, _ => g_s4_0
  | 1, _ => g_s4_1
  | 2, _ => g_s4_2
  | 3, _ => g_s4_3
  | k + 4, h => absurd h (by omega)
theorem a_s5 : ∀ i, i < 5 → hpS 5 i = true := fun i h => match i, h with
  | 0, _ => g_s5_0
  | 1, _ => g_s5_1
  | 2, _ => g_s5_2
  | 3, _ => g_s5_3
  | 4, _ => g_s5_4
  | k + 5, h => absurd h (by omega)
theorem a_s6 : ∀ i, i < 6 → hpS 6 i = true := fun i h => match i, h with
  | 0, _ => g_s6_0
  | 1, _ => g_s6_1
  | 2, _ => g_s6_2
  | 3, _ => g_s6_3
  | 4, _ => g_s6_4
  | 5, _ => g_s6_5
  | k + 6, h => absurd h (by omega)
theorem a_s7 : ∀ i, i < 7 → hpS 7 i = true := fun i h => match i, h with
  | 0, _ => g_s7_0
  | 1, _ => g_s7_1
  | 2, _ => g_s7_2
  | 3, _ => g_s7_3
  | 4, _ => g_s7_4
  | 5, _ => g_s7_5
  | 6, _ => g_s7_6
  | k + 7, h => absurd h (by omega)
theorem a_s8 : ∀ i, i < 8 → hpS 8 i = true := fun i h => match i, h with
  | 0, _ => g_s8_0
  | 1, _ => g_s8_1
  | 2, _ => g_s8_2
  | 3, _ => g_s8_3
  | 4, _ => g_s8_4
  | 5, _ => g_s8_5
  | 6, _ => g_s8_6
  | 7, _ => g_s8_7
  | k + 8, h => absurd h (by omega)
theorem a_s9 : ∀ i, i < 9 → hpS 9 i = true := fun i h => match i, h with
  | 0, _ => g_s9_0
  | 1, _ => g_s9_1
  | 2, _ => g_s9_2
  | 3, _ => g_s9_3
  | 4, _ => g_s9_4
  | 5, _ => g_s9_5
  | 6, _ => g_s9_6
  | 7, _ => g_s9_7
  | 8, _ => g_s9_8
  | k + 9, h => absurd h (by omega)
theorem a_s10 : ∀ i, i < 10 → hpS 10 i = true := fun i h => match i, h with
  | 0, _ => g_s10_0
  | 1, _ => g_s10_1
  | 2, _ => g_s10_2
  | 3, _ => g_s10_3
  | 4, _ => g_s10_4
  | 5, _ => g_s10_5
  | 6, _ => g_s10_6
  | 7, _ => g_s10_7
  | 8, _ => g_s10_8
  | 9, _ => g_s10_9
  | k + 10, h => absurd h (by omega)
theorem a_s11 : ∀ i, i < 11 → hpS 11 i = true := fun i h => match i, h with
  | 0, _ => g_s11_0
  | 1, _ => g_s11_1
  | 2, _ => g_s11_2
  | 3, _ => g_s11_3
  | 4, _ => g_s11_4
  | 5, _ => g_s11_5
  | 6, _ => g_s11_6
  | 7, _ => g_s11_7
  | 8, _ => g_s11_8
  | 9, _ => g_s11_9
  | 10, _ => g_s11_10
  | k + 11, h => absurd h (by omega)
theorem a_s12 : ∀ i, i < 12 → hpS 12 i = true := fun i h => match i, h with
  | 0, _ => g_s12_0
  | 1, _ => g_s12_1
  | 2, _ => g_s12_2
  | 3, _ => g_s12_3
  | 4, _ => g_s12_4
  | 5, _ => g_s12_5
  | 6, _ => g_s12_6
  | 7, _ => g_s12_7
  | 8, _ => g_s12_8
  | 9, _ => g_s12_9
  | 10, _ => g_s12_10
  | 11, _ => g_s12_11
  | k + 12, h => absurd h (by omega)
theorem a_s13 : ∀ i, i < 13 → hpS 13 i = true := fun i h => match i, h with
  | 0, _ => g_s13_0
  | 1, _ => g_s13_1
  | 2, _ => g_s13_2
  | 3, _ => g_s13_3
  | 4, _ => g_s13_4
  | 5, _ => g_s13_5
  | 6, _ => g_s13_6
  | 7, _ => g_s13_7
  | 8, _ => g_s13_8
  | 9, _ => g_s13_9
  | 10, _ => g_s13_10
  | 11, _ => g_s13_11
  | 12, _ => g_s13_12
  | k + 13, h => absurd h (by omega)
theorem a_s14 : ∀ i, i < 14 → hpS 14 i = true := fun i h => match i, h with
  | 0, _ => g_s14_0
  | 1, _ => g_s14_1
  | 2, _ => g_s14_2
  | 3, _ => g_s14_3
  | 4, _ => g_s14_4
  | 5, _ => g_s14_5
  | 6, _ => g_s14_6
  | 7, _ => g_s14_7
  | 8, _ => g_s14_8
  | 9, _ => g_s14_9
  | 10, _ => g_s14_10
  | 11, _ => g_s14_11
  | 12, _ => g_s14_12
  | 13, _ => g_s14_13
  | k + 14, h => absurd h (by omega)
theorem a_s15 : ∀ i, i < 15 → hpS 15 i = true := fun i h => match i, h with
  | 0, _ => g_s15_0
  | 1, _ => g_s15_1
  | 2, _ => g_s15_2
  | 3, _ => g_s15_3
  | 4, _ => g_s15_4
  | 5, _ => g_s15_5
  | 6, _ => g_s15_6
  | 7, _ => g_s15_7
  | 8, _ => g_s15_8
  | 9, _ => g_s15_9
  | 10, _ => g_s15_10
  | 11, _ => g_s15_11
  | 12, _ => g_s15_12
  | 13, _ => g_s15_13
  | 14, _ => g_s15_14
  | k + 15, h => absurd h (by omega)
theorem a_s16 : ∀ i, i < 16 → hpS 16 i = true := fun i h => match i, h with
  | 0, _ => g_s16_0
  | 1, _ => g_s16_1
  | 2, _ => g_s16_2
  | 3, _ => g_s16_3
  | 4, _ => g_s16_4
  | 5, _ => g_s16_5
  | 6, _ => g_s16_6
  | 7, _ => g_s16_7
  | 8, _ => g_s16_8
  | 9, _ => g_s16_9
  | 10, _ => g_s16_10
  | 11, _ => g_s16_11
  | 12, _ => g_s16_12
  | 13, _ => g_s16_13
  | 14, _ => g_s16_14
  | 15, _ => g_s16_15
  | k + 16, h => absurd h (by omega)
theorem a_s17 : ∀ i, i < 17 → hpS 17 i = true := fun i h => match i, h with
  | 0, _ => g_s17_0
  | 1, _ => g_s17_1
  | 2, _ => g_s17_2
  | 3, _ => g_s17_3
  | 4, _ => g_s17_4
  | 5, _ => g_s17_5
  | 6, _ => g_s17_6
  | 7, _ => g_s17_7
  | 8, _ => g_s17_8
  | 9, _ => g_s17_9
  | 10, _ => g_s17_10
  | 11, _ => g_s17_11
  | 12, _ => g_s17_12
  | 13, _ => g_s17_13
  | 14, _ => g_s17_14
  | 15, _ => g_s17_15
  | 16, _ => g_s17_16
  | k + 17, h => absurd h (by omega)
theorem a_s18 : ∀ i, i < 18 → hpS 18 i = true := fun i h => match i, h with
  | 0, _ => g_s18_0
  | 1, _ => g_s18_1
  | 2, _ => g_s18_2
  | 3, _ => g_s18_3
  | 4, _ => g_s18_4
  | 5, _ => g_s18_5
  | 6, _ => g_s18_6
  | 7, _ => g_s18_7
  | 8, _ => g_s18_8
  | 9, _ => g_s18_9
  | 10, _ => g_s18_10
  | 11, _ => g_s18_11
  | 12, _ => g_s18_12
  | 13, _ => g_s18_13
  | 14, _ => g_s18_14
  | 15, _ => g_s18_15
  | 16, _ => g_s18_16
  | 17, _ => g_s18_17
  | k + 18, h => absurd h (by omega)
theorem a_s19 : ∀ i, i < 19 → hpS 19 i = true := fun i h => match i, h with
  | 0, _ => g_s19_0
  | 1, _ => g_s19_1
  | 2, _ => g_s19_2
  | 3, _ => g_s19_3
  | 4, _ => g_s19_4
  | 5, _ => g_s19_5
  | 6, _ => g_s19_6
  | 7, _ => g_s19_7
  | 8, _ => g_s19_8
  | 9, _ => g_s19_9
  | 10, _ => g_s19_10
  | 11, _ => g_s19_11
  | 12, _ => g_s19_12
  | 13, _ => g_s19_13
  | 14, _ => g_s19_14
  | 15, _ => g_s19_15
  | 16, _ => g_s19_16
  | 17, _ => g_s19_17
  | 18, _ => g_s19_18
  | k + 19, h => absurd h (by omega)
theorem a_s20 : ∀ i, i < 20 → hpS 20 i = true := fun i h => match i, h with
  | 0, _ => g_s20_0
  | 1, _ => g_s20_1
  | 2, _ => g_s20_2
  | 3, _ => g_s20_3
  | 4, _ => g_s20_4
  | 5, _ => g_s20_5
  | 6, _ => g_s20_6
  | 7, _ => g_s20_7
  | 8, _ => g_s20_8
  | 9, _ => g_s20_9
  | 10, _ => g_s20_10
  | 11, _ => g_s20_11
  | 12, _ => g_s20_12
  | 13, _ => g_s20_13
  | 14, _ => g_s20_14
  | 15, _ => g_s20_15
  | 16, _ => g_s20_16
  | 17, _ => g_s20_17
  | 18, _ => g_s20_18
  | 19, _ => g_s20_19
  | k + 20, h => absurd h (by omega)
theorem a_s21 : ∀ i, i < 21 → hpS 21 i = true := fun i h => match i, h with
  | 0, _ => g_s21_0
  | 1, _ => g_s21_1
  | 2, _ => g_s21_2
  | 3, _ => g_s21_3
  | 4, _ => g_s21_4
  | 5, _ => g_s21_5
  | 6, _ => g_s21_6
  | 7, _ => g_s21_7
  | 8, _ => g_s21_8
  | 9, _ => g_s21_9
  | 10, _ => g_s21_10
  | 11, _ => g_s21_11
  | 12, _ => g_s21_12
  | 13, _ => g_s21_13
  | 14, _ => g_s21_14
  | 15, _ => g_s21_15
  | 16, _ => g_s21_16
  | 17, _ => g_s21_17
  | 18, _ => g_s21_18
  | 19, _ => g_s21_19
  | 20, _ => g_s21_20
  | k + 21, h => absurd h (by omega)
theorem a_s22 : ∀ i, i < 22 → hpS 22 i = true := fun i h => match i, h with
  | 0, _ => g_s22_0
  | 1, _ => g_s22_1
  | 2, _ => g_s22_2
  | 3, _ => g_s22_3
  | 4, _ => g_s22_4
  | 5, _ => g_s22_5
  | 6, _ => g_s22_6
  | 7, _ => g_s22_7
  | 8, _ => g_s22_8
  | 9, _ => g_s22_9
  | 10, _ => g_s22_10
  | 11, _ => g_s22_11
  | 12, _ => g_s22_12
  | 13, _ => g_s22_13
  | 14, _ => g_s22_14
  | 15, _ => g_s22_15
  | 16, _ => g_s22_16
  | 17, _ => g_s22_17
  | 18, _ => g_s22_18
  | 19, _ => g_s22_19
  | 20, _ => g_s22_20
  | 21, _ => g_s22_21
  | k + 22, h => absurd h (by omega)
theorem a_s23 : ∀ i, i < 23 → hpS 23 i = true := fun i h => match i, h with
  | 0, _ => g_s23_0
  | 1, _ => g_s23_1
  | 2, _ => g_s23_2
  | 3, _ => g_s23_3
  | 4, _ => g_s23_4
  | 5, _ => g_s23_5
  | 6, _ => g_s23_6
  | 7, _ => g_s23_7
  | 8, _ => g_s23_8
  | 9, _ => g_s23_9
  | 10, _ => g_s23_10
  | 11, _ => g_s23_11
  | 12, _ => g_s23_12
  | 13, _ => g_s23_13
  | 14, _ => g_s23_14
  | 15, _ => g_s23_15
  | 16, _ => g_s23_16
  | 17, _ => g_s23_17
  | 18, _ => g_s23_18
  | 19, _ => g_s23_19
  | 20, _ => g_s23_20
  | 21, _ => g_s23_21
  | 22, _ => g_s23_22
  | k + 23, h => absurd h (by omega)
theorem a_s24 : ∀ i, i < 24 → hpS 24 i = true := fun i h => match i, h with
  | 0, _ => g_s24_0
  | 1, _ => g_s24_1
  | 2, _ => g_s24_2
  | 3, _ => g_s24_3
  | 4, _ => g_s24_4
  | 5, _ => g_s24_5
  | 6, _ => g_s24_6
  | 7, _ => g_s24_7
  | 8, _ => g_s24_8
  | 9, _ => g_s24_9
  | 10, _ => g_s24_10
  | 11, _ => g_s24_11
  | 12, _ => g_s24_12
  | 13, _ => g_s24_13
  | 14, _ => g_s24_14
  | 15, _ => g_s24_15
  | 16, _ => g_s24_16
  | 17, _ => g_s24_17
  | 18, _ => g_s24_18
  | 19, _ => g_s24_19
  | 20, _ => g_s24_20
  | 21, _ => g_s24_21
  | 22, _ => g_s24_22
  | 23, _ => g_s24_23
  | k + 24, h => absurd h (by omega)
theorem a_s25 : ∀ i, i < 25 → hpS 25 i = true := fun i h => match i, h with
  | 0, _ => g_s25_0
  | 1, _ => g_s25_1
  | 2, _ => g_s25_2
  | 3, _ => g_s25_3
  | 4, _ => g_s25_4
  | 5, _ => g_s25_5
  | 6, _ => g_s25_6
  | 7, _ => g_s25_7
  | 8, _ => g_s25_8
  | 9, _ => g_s25_9
  | 10, _ => g_s25_10
  | 11, _ => g_s25_11
  | 12, _ => g_s25_12
  | 13, _ => g_s25_13
  | 14, _ => g_s25_14
  | 15, _ => g_s25_15
  | 16, _ => g_s25_16
  | 17, _ => g_s25_17
  | 18, _ => g_s25_18
  | 19, _ => g_s25_19
  | 20, _ => g_s25_20
  | 21, _ => g_s25_21
  | 22, _ => g_s25_22
  | 23, _ => g_s25_23
  | 24, _ => g_s25_24
  | k + 25, h => absurd h (by omega)
theorem a_s26 : ∀ i, i < 26 → hpS 26 i = true := fun i h => match i, h with
  | 0, _ => g_s26_0
  | 1, _ => g_s26_1
  | 2, _ => g_s26_2
  | 3, _ => g_s26_3
  | 4, _ => g_s26_4
  | 5, _ => g_s26_5
  | 6, _ => g_s26_6
  | 7, _ => g_s26_7
  | 8, _ => g_s26_8
  | 9, _ => g_s26_9
  | 10, _ => g_s26_10
  | 11, _ => g_s26_11
  | 12, _ => g_s26_12
  | 13, _ => g_s26_13
  | 14, _ => g_s26_14
  | 15, _ => g_s26_15
  | 16, _ => g_s26_16
  | 17, _ => g_s26_17
  | 18, _ => g_s26_18
  | 19, _ => g_s26_19
  | 20, _ => g_s26_20
  | 21, _ => g_s26_21
  | 22, _ => g_s26_22
  | 23, _ => g_s26_23
  | 24, _ => g_s26_24
  | 25, _ => g_s26_25
  | k + 26, h => absurd h (by omega)
theorem a_s27 : ∀ i, i < 27 → hpS 27 i = true := fun i h => match i, h with
  | 0, _ => g_s27_0
  | 1, _ => g_s27_1
  | 2, _ => g_s27_2
  | 3, _ => g_s27_3
  | 4, _ => g_s27_4
  | 5, _ => g_s27_5
  | 6, _ => g_s27_6
  | 7, _ => g_s27_7
  | 8, _ => g_s27_8
  | 9, _ => g_s27_9
  | 10, _ => g_s27_10
  | 11, _ => g_s27_11
  | 12, _ => g_s27_12
  | 13, _ => g_s27_13
  | 14, _ => g_s27_14
  | 15, _ => g_s27_15
  | 16, _ => g_s27_16
  | 17, _ => g_s27_17
  | 18, _ => g_s27_18
  | 19, _ => g_s27_19
  | 20, _ => g_s27_20
  | 21, _ => g_s27_21
  | 22, _ => g_s27_22
  | 23, _ => g_s27_23
  | 24, _ => g_s27_24
  | 25, _ => g_s27_25
  | 26, _ => g_s27_26
  | k + 27, h => absurd h (by omega)
theorem a_s28 : ∀ i, i < 28 → hpS 28 i = true := fun i h => match i, h with
  | 0, _ => g_s28_0
  | 1, _ => g_s28_1
  | 2, _ => g_s28_2
  | 3, _ => g_s28_3
  | 4, _ => g_s28_4
  | 5, _ => g_s28_5
  | 6, _ => g_s28_6
  | 7, _ => g_s28_7
  | 8, _ => g_s28_8
  | 9, _ => g_s28_9
  | 10, _ => g_s28_10
  | 11, _ => g_s28_11
  | 12, _ => g_s28_12
  | 13, _ => g_s28_13
  | 14, _ => g_s28_14
  | 15, _ => g_s28_15
  | 16, _ => g_s28_16
  | 17, _ => g_s28_17
  | 18, _ => g_s28_18
  | 19, _ => g_s28_19
  | 20, _ => g_s28_20
  | 21, _ => g_s28_21
  | 22, _ => g_s28_22
  | 23, _ => g_s28_23
  | 24, _ => g_s28_24
  | 25, _ => g_s28_25
  | 26, _ => g_s28_26
  | 27, _ => g_s28_27
  | k + 28, h => absurd h (by omega)
theorem a_s29 : ∀ i, i < 29 → hpS 29 i = true := fun i h => match i, h with
  | 0, _ => g_s29_0
  | 1, _ => g_s29_1
  | 2, _ => g_s29_2
  | 3, _ => g_s29_3
  | 4, _ => g_s29_4
  | 5, _ => g_s29_5
  | 6, _ => g_s29_6
  | 7, _ => g_s29_7
  | 8, _ => g_s29_8
  | 9, _ => g_s29_9
  | 10, _ => g_s29_10
  | 11, _ => g_s29_11
  | 12, _ => g_s29_12
  | 13, _ => g_s29_13
  | 14, _ => g_s29_14
  | 15, _ => g_s29_15
  | 16, _ => g_s29_16
  | 17, _ => g_s29_17
  | 18, _ => g_s29_18
  | 19, _ => g_s29_19
  | 20, _ => g_s29_20
  | 21, _ => g_s29_21
  | 22, _ => g_s29_22
  | 23, _ => g_s29_23
  | 24, _ => g_s29_24
  | 25, _ => g_s29_25
  | 26, _ => g_s29_26
  | 27, _ => g_s29_27
  | 28, _ => g_s29_28
  | k + 29, h => absurd h (by omega)
theorem a_s30 : ∀ i, i < 30 → hpS 30 i = true := fun i h => match i, h with
  | 0, _ => g_s30_0
  | 1, _ => g_s30_1
  | 2, _ => g_s30_2
  | 3, _ => g_s30_3
  | 4, _ => g_s30_4
  | 5, _ => g_s30_5
  | 6, _ => g_s30_6
  | 7, _ => g_s30_7
  | 8, _ => g_s30_8
  | 9, _ => g_s30_9
  | 10, _ => g_s30_10
  | 11, _ => g_s30_11
  | 12, _ => g_s30_12
  | 13, _ => g_s30_13
  | 14, _ => g_s30_14
  | 15, _ => g_s30_15
  | 16, _ => g_s30_16
  | 17, _ => g_s30_17
  | 18, _ => g_s30_18
  | 19, _ => g_s30_19
  | 20, _ => g_s30_20
  | 21, _ => g_s30_21
  | 22, _ => g_s30_22
  | 23, _ => g_s30_23
  | 24, _ => g_s30_24
  | 25, _ => g_s30_25
  | 26, _ => g_s30_26
  | 27, _ => g_s30_27
  | 28, _ => g_s30_28
  | 29, _ => g_s30_29
  | k + 30, h => absurd h (by omega)
theorem a_s : ∀ n, n < 31 → ∀ i, i < n → hpS n i = true := fun n h => match n, h with
  | 0, _ => a_s0
  | 1, _ => a_s1
  | 2, _ => a_s2
  | 3, _ => a_s3
  | 4, _ => a_s4
  | 5, _ => a_s5
  | 6, _ => a_s6
  | 7, _ => a_s7
  | 8, _ => a_s8
  | 9, _ => a_s9
  | 10, _ => a_s10
  | 11, _ => a_s11
  | 12, _ => a_s12
  | 13, _ => a_s13
  | 14, _ => a_s14
  | 15, _ => a_s15
  | 16, _ => a_s16
  | 17, _ => a_s17
  | 18, _ => a_s18
  | 19, _ => a_s19
  | 20, _ => a_s20
  | 21, _ => a_s21
  | 22, _ => a_s22
  | 23, _ => a_s23
  | 24, _ => a_s24
  | 25, _ => a_s25
  | 26, _ => a_s26
  | 27, _ => a_s27
  | 28, _ => a_s28
  | 29, _ => a_s29
  | 30, _ => a_s30
  | k + 31, h => absurd h (by omega)
theorem a_r0 : ∀ i, i < 0 → hpR 0 i = true := fun i h => absurd h (by omega)
theorem a_r1 : ∀ i, i < 1 → hpR 1 i = true := fun i h => match i, h with
  | 0, _ => g_r1_0
  | k + 1, h => absurd h (by omega)
theorem a_r2 : ∀ i, i < 2 → hpR 2 i = true := fun i h => match i, h with
  | 0, _ => g_r2_0
  | 1, _ => g_r2_1
  | k + 2, h => absurd h (by omega)
theorem a_r3 : ∀ i, i < 3 → hpR 3 i = true := fun i h => match i, h with
  | 0, _ => g_r3_0
  | 1, _ => g_r3_1
  | 2, _ => g_r3_2
  | k + 3, h => absurd h (by omega)
theorem a_r4 : ∀ i, i < 4 → hpR 4 i = true := fun i h => match i, h with
  | 0, _ => g_r4_0
  | 1, _ => g_r4_1
  | 2, _ => g_r4_2
  | 3, _ => g_r4_3
  | k + 4, h => absurd h (by omega)
theorem a_r5 : ∀ i, i < 5 → hpR 5 i = true := fun i h => match i, h with
  | 0, _ => g_r5_0
  | 1, _ => g_r5_1
  | 2, _ => g_r5_2
  | 3, _ => g_r5_3
  | 4, _ => g_r5_4
  | k + 5, h => absurd h (by omega)
theorem a_r6 : ∀ i, i < 6 → hpR 6 i = true := fun i h => match i, h with
  | 0, _ => g_r6_0
  | 1, _ => g_r6_1
  | 2, _ => g_r6_2
  | 3, _ => g_r6_3
  | 4, _ => g_r6_4
  | 5, _ => g_r6_5
  | k + 6, h => absurd h (by omega)
theorem a_r7 : ∀ i, i < 7 → hpR 7 i = true := fun i h => match i, h with
  | 0, _ => g_r7_0
  | 1, _ => g_r7_1
  | 2, _ => g_r7_2
  | 3, _ => g_r7_3
  | 4, _ => g_r7_4
  | 5, _ => g_r7_5
  | 6, _ => g_r7_6
  | k + 7, h => absurd h (by omega)
theorem a_r8 : ∀ i, i < 8 → hpR 8 i = true := fun i h => match i, h with
  | 0, _ => g_r8_0
  | 1, _ => g_r8_1
  | 2, _ => g_r8_2
  | 3, _ => g_r8_3
  | 4, _ => g_r8_4
  | 5, _ => g_r8_5
  | 6, _ => g_r8_6
  | 7, _ => g_r8_7
  | k + 8, h => absurd h (by omega)
theorem a_r9 : ∀ i, i < 9 → hpR 9 i = true := fun i h => match i, h with
  | 0, _ => g_r9_0
  | 1, _ => g_r9_1
  | 2, _ => g_r9_2
  | 3, _ => g_r9_3
  | 4, _ => g_r9_4
  | 5, _ => g_r9_5
  | 6, _ => g_r9_6
  | 7, _ => g_r9_7
  | 8, _ => g_r9_8
  | k + 9, h => absurd h (by omega)
theorem a_r10 : ∀ i, i < 10 → hpR 10 i = true := fun i h => match i, h with
  | 0, _ => g_r10_0
  | 1, _ => g_r10_1
  | 2, _ => g_r10_2
  | 3, _ => g_r10_3
  | 4, _ => g_r10_4
  | 5, _ => g_r10_5
  | 6, _ => g_r10_6
  | 7, _ => g_r10_7
  | 8, _ => g_r10_8
  | 9, _ => g_r10_9
  | k + 10, h => absurd h (by omega)
theorem a_r11 : ∀ i, i < 11 → hpR 11 i = true := fun i h => match i, h with
  | 0, _ => g_r11_0
  | 1, _ => g_r11_1
  | 2, _ => g_r11_2
  | 3, _ => g_r11_3
  | 4, _ => g_r11_4
  | 5, _ => g_r11_5
  | 6, _ => g_r11_6
  | 7, _ => g_r11_7
  | 8, _ => g_r11_8
  | 9, _ => g_r11_9
  | 10, _ => g_r11_10
  | k + 11, h => absurd h (by omega)
theorem a_r12 : ∀ i, i < 12 → hpR 12 i = true := fun i h => match i, h with
  | 0, _ => g_r12_0
  | 1, _ => g_r12_1
  | 2, _ => g_r12_2
  | 3, _ => g_r12_3
  | 4, _ => g_r12_4
  | 5, _ => g_r12_5
  | 6, _ => g_r12_6
  | 7, _ => g_r12_7
  | 8, _ => g_r12_8
  | 9, _ => g_r12_9
  | 10, _ => g_r12_10
  | 11, _ => g_r12_11
  | k + 12, h => absurd h (by omega)
theorem a_r13 : ∀ i, i < 13 → hpR 13 i = true := fun i h => match i, h with
  | 0, _ => g_r13_0
  | 1, _ => g_r13_1
  | 2, _ => g_r13_2
  | 3, _ => g_r13_3
  | 4, _ => g_r13_4
  | 5, _ => g_r13_5
  | 6, _ => g_r13_6
  | 7, _ => g_r13_7
  | 8, _ => g_r13_8
  | 9, _ => g_r13_9
  | 10, _ => g_r13_10
  | 11, _ => g_r13_11
  | 12, _ => g_r13_12
  | k + 13, h => absurd h (by omega)
theorem a_r14 : ∀ i, i < 14 → hpR 14 i = true := fun i h => match i, h with
  | 0, _ => g_r14_0
  | 1, _ => g_r14_1
  | 2, _ => g_r14_2
  | 3, _ => g_r14_3
  | 4, _ => g_r14_4
  | 5, _ => g_r14_5
  | 6, _ => g_r14_6
  | 7, _ => g_r14_7
  | 8, _ => g_r14_8
  | 9, _ => g_r14_9
  | 10, _ => g_r14_10
  | 11, _ => g_r14_11
  | 12, _ => g_r14_12
  | 13, _ => g_r14_13
  | k + 14, h => absurd h (by omega)
theorem a_r15 : ∀ i, i < 15 → hpR 15 i = true := fun i h => match i, h with
  | 0, _ => g_r15_0
  | 1, _ => g_r15_1
  | 2, _ => g_r15_2
  | 3, _ => g_r15_3
  | 4, _ => g_r15_4
  | 5, _ => g_r15_5
  | 6, _ => g_r15_6
  | 7, _ => g_r15_7
  | 8, _ => g_r15_8
  | 9, _ => g_r15_9
  | 10, _ => g_r15_10
  | 11, _ => g_r15_11
  | 12, _ => g_r15_12
  | 13, _ => g_r15_13
  | 14, _ => g_r15_14
  | k + 15, h => absurd h (by omega)
theorem a_r16 : ∀ i, i < 16 → hpR 16 i = true := fun i h => match i, h with
  | 0, _ => g_r16_0
  | 1, _ => g_r16_1
  | 2, _ => g_r16_2
  | 3, _ => g_r16_3
  | 4, _ => g_r16_4
  | 5, _ => g_r16_5
  | 6, _ => g_r16_6
  | 7, _ => g_r16_7
  | 8, _ => g_r16_8
  | 9, _ => g_r16_9
  | 10, _ => g_r16_10
  | 11, _ => g_r16_11
  | 12, _ => g_r16_12
  | 13, _ => g_r16_13
  | 14, _ => g_r16_14
  | 15, _ => g_r16_15
  | k + 16, h => absurd h (by omega)
theorem a_r17 : ∀ i, i < 17 → hpR 17 i = true := fun i h => match i, h with
  | 0, _ => g_r17_0
  | 1, _ => g_r17_1
  | 2, _ => g_r17_2
  | 3, _ => g_r17_3
  | 4, _ => g_r17_4
  | 5, _ => g_r17_5
  | 6, _ => g_r17_6
  | 7, _ => g_r17_7
  | 8, _ => g_r17_8
  | 9, _ => g_r17_9
  | 10, _ => g_r17_10
  | 11, _ => g_r17_11
  | 12, _ => g_r17_12
  | 13, _ => g_r17_13
  | 14, _ => g_r17_14
  | 15, _ => g_r17_15
  | 16, _ => g_r17_16
  | k + 17, h => absurd h (by omega)
theorem a_r18 : ∀ i, i < 18 → hpR 18 i = true := fun i h => match i, h with
  | 0, _ => g_r18_0
  | 1, _ => g_r18_1
  | 2, _ => g_r18_2
  | 3, _ => g_r18_3
  | 4, _ => g_r18_4
  | 5, _ => g_r18_5
  | 6, _ => g_r18_6
  | 7, _ => g_r18_7
  | 8, _ => g_r18_8
  | 9, _ => g_r18_9
  | 10, _ => g_r18_10
  | 11, _ => g_r18_11
  | 12, _ => g_r18_12
  | 13, _ => g_r18_13
  | 14, _ => g_r18_14
  | 15, _ => g_r18_15
  | 16, _ => g_r18_16
  | 17, _ => g_r18_17
  | k + 18, h => absurd h (by omega)
theorem a_r19 : ∀ i, i < 19 → hpR 19 i = true := fun i h => match i, h with
  | 0, _ => g_r19_0
  | 1, _ => g_r19_1
  | 2, _ => g_r19_2
  | 3, _ => g_r19_3
  | 4, _ => g_r19_4
  | 5, _ => g_r19_5
  | 6, _ => g_r19_6
  | 7, _ => g_r19_7
  | 8, _ => g_r19_8
  | 9, _ => g_r19_9
  | 10, _ => g_r19_10
  | 11, _ => g_r19_11
  | 12, _ => g_r19_12
  | 13, _ => g_r19_13
  | 14, _ => g_r19_14
  | 15, _ => g_r19_15
  | 16, _ => g_r19_16
  | 17, _ => g_r19_17
  | 18, _ => g_r19_18
  | k + 19, h => absurd h (by omega)
theorem a_r20 : ∀ i, i < 20 → hpR 20 i = true := fun i h => match i, h with
  | 0, _ => g_r20_0
  | 1, _ => g_r20_1
  | 2, _ => g_r20_2
  | 3, _ => g_r20_3
  | 4, _ => g_r20_4
  | 5, _ => g_r20_5
  | 6, _ => g_r20_6
  | 7, _ => g_r20_7
  | 8, _ => g_r20_8
  | 9, _ => g_r20_9
  | 10, _ => g_r20_10
  | 11, _ => g_r20_11
  | 12, _ => g_r20_12
  | 13, _ => g_r20_13
  | 14, _ => g_r20_14
  | 15, _ => g_r20_15
  | 16, _ => g_r20_16
  | 17, _ => g_r20_17
  | 18, _ => g_r20_18
  | 19, _ => g_r20_19
  | k + 20, h => absurd h (by omega)
theorem a_r21 : ∀ i, i < 21 → hpR 21 i = true := fun i h => match i, h with
  | 0, _ => g_r21_0
  | 1, _ => g_r21_1
  | 2, _ => g_r21_2
  | 3, _ => g_r21_3
  | 4, _ => g_r21_4
  | 5, _ => g_r21_5
  | 6, _ => g_r21_6
  | 7, _ => g_r21_7
  | 8, _ => g_r21_8
  | 9, _ => g_r21_9
  | 10, _ => g_r21_10
  | 11, _ => g_r21_11
  | 12, _ => g_r21_12
  | 13, _ => g_r21_13
  | 14, _ => g_r21_14
  | 15, _ => g_r21_15
  | 16, _ => g_r21_16
  | 17, _ => g_r21_17
  | 18, _ => g_r21_18
  | 19, _ => g_r21_19
  | 20, _ => g_r21_20
  | k + 21, h => absurd h (by omega)
theorem a_r22 : ∀ i, i < 22 → hpR 22 i = true := fun i h => match i, h with
  | 0, _ => g_r22_0
  | 1, _ => g_r22_1
  | 2, _ => g_r22_2
  | 3, _ => g_r22_3
  | 4, _ => g_r22_4
  | 5, _ => g_r22_5
  | 6, _ => g_r22_6
  | 7, _ => g_r22_7
  | 8, _ => g_r22_8
  | 9, _ => g_r22_9
  | 10, _ => g_r22_10
  | 11, _ => g_r22_11
  | 12, _ => g_r22_12
  | 13, _ => g_r22_13
  | 14, _ => g_r22_14
  | 15, _ => g_r22_15
  | 16, _ => g_r22_16
  | 17, _ => g_r22_17
  | 18, _ => g_r22_18
  | 19, _ => g_r22_19
  | 20, _ => g_r22_20
  | 21, _ => g_r22_21
  | k + 22, h => absurd h (by omega)
theorem a_r23 : ∀ i, i < 23 → hpR 23 i = true := fun i h => match i, h with
  | 0, _ => g_r23_0
  | 1, _ => g_r23_1
  | 2, _ => g_r23_2
  | 3, _ => g_r23_3
  | 4, _ => g_r23_4
  | 5, _ => g_r23_5
  | 6, _ => g_r23_6
  | 7, _ => g_r23_7
  | 8, _ => g_r23_8
  | 9, _ => g_r23_9
  | 10, _ => g_r23_10
  | 11, _ => g_r23_11
  | 12, _ => g_r23_12
  | 13, _ => g_r23_13
  | 14, _ => g_r23_14
  | 15, _ => g_r23_15
  | 16, _ => g_r23_16
  | 17, _ => g_r23_17
  | 18, _ => g_r23_18
  | 19, _ => g_r23_19
  | 20, _ => g_r23_20
  | 21, _ => g_r23_21
  | 22, _ => g_r23_22
  | k + 23, h => absurd h (by omega)
theorem a_r24 : ∀ i, i < 24 → hpR 24 i = true := fun i h => match i, h with
  | 0, _ => g_r24_0
  | 1, _ => g_r24_1
  | 2, _ => g_r24_2
  | 3, _ => g_r24_3
  | 4, _ => g_r24_4
  | 5, _ => g_r24_5
  | 6, _ => g_r24_6
  | 7, _ => g_r24_7
  | 8, _ => g_r24_8
  | 9, _ => g_r24_9
  | 10, _ => g_r24_10
  | 11, _ => g_r24_11
  | 12, _ => g_r24_12
  | 13, _ => g_r24_13
  | 14, _ => g_r24_14
  | 15, _ => g_r24_15
  | 16, _ => g_r24_16
  | 17, _ => g_r24_17
  | 18, _ => g_r24_18
  | 19, _ => g_r24_19
  | 20, _ => g_r24_20
  | 21, _ => g_r24_21
  | 22, _ => g_r24_22
  | 23, _ => g_r24_23
  | k + 24, h => absurd h (by omega)
theorem a_r25 : ∀ i, i < 25 → hpR 25 i = true := fun i h => match i, h with
  | 0, _ => g_r25_0
  | 1, _ => g_r25_1
  | 2, _ => g_r25_2
  | 3, _ => g_r25_3
  | 4, _ => g_r25_4
  | 5, _ => g_r25_5
  | 6, _ => g_r25_6
  | 7, _ => g_r25_7
  | 8, _ => g_r25_8
  | 9, _ => g_r25_9
  | 10, _ => g_r25_10
  | 11, _ => g_r25_11
  | 12, _ => g_r25_12
  | 13, _ => g_r25_13
  | 14, _ => g_r25_14
  | 15, _ => g_r25_15
  | 16, _ => g_r25_16
  | 17, _ => g_r25_17
  | 18, _ => g_r25_18
  | 19, _ => g_r25_19
  | 20, _ => g_r25_20
  | 21, _ => g_r25_21
  | 22, _ => g_r25_22
  | 23, _ => g_r25_23
  | 24, _ => g_r25_24
  | k + 25, h => absurd h (by omega)
theorem a_r26 : ∀ i, i < 26 → hpR 26 i = true := fun i h => match i, h with
  | 0, _ => g_r26_0
  | 1, _ => g_r26_1
  | 2, _ => g_r26_2
  | 3, _ => g_r26_3
  | 4, _ => g_r26_4
  | 5, _ => g_r26_5
  | 6, _ => g_r26_6
  | 7, _ => g_r26_7
  | 8, _ => g_r26_8
  | 9, _ => g_r26_9
  | 10, _ => g_r26_10
  | 11, _ => g_r26_11
  | 12, _ => g_r26_12
  | 13, _ => g_r26_13
  | 14, _ => g_r26_14
  | 15, _ => g_r26_15
  | 16, _ => g_r26_16
  | 17, _ => g_r26_17
  | 18, _ => g_r26_18
  | 19, _ => g_r26_19
  | 20, _ => g_r26_20
  | 21, _ => g_r26_21
  | 22, _ => g_r26_22
  | 23, _ => g_r26_23
  | 24, _ => g_r26_24
  | 25, _ => g_r26_25
  | k + 26, h => absurd h (by omega)
theorem a_r27 : ∀ i, i < 27 → hpR 27 i = true := fun i h => match i, h with
  | 0, _ => g_r27_0
  | 1, _ => g_r27_1
  | 2, _ => g_r27_2
  | 3, _ => g_r27_3
  | 4, _ => g_r27_4
  | 5, _ => g_r27_5
  | 6, _ => g_r27_6
  | 7, _ => g_r27_7
  | 8, _ => g_r27_8
  | 9, _ => g_r27_9
  | 10, _ => g_r27_10
  | 11, _ => g_r27_11
  | 12, _ => g_r27_12
  | 13, _ => g_r27_13
  | 14, _ => g_r27_14
  | 15, _ => g_r27_15
  | 16, _ => g_r27_16
  | 17, _ => g_r27_17
  | 18, _ => g_r27_18
  | 19, _ => g_r27_19
  | 20, _ => g_r27_20
  | 21, _ => g_r27_21
  | 22, _ => g_r27_22
  | 23, _ => g_r27_23
  | 24, _ => g_r27_24
  | 25, _ => g_r27_25
  | 26, _ => g_r27_26
  | k + 27, h => absurd h (by omega)
theorem a_r28 : ∀ i, i < 28 → hpR 28 i = true := fun i h => match i, h with
  | 0, _ => g_r28_0
  | 1, _ => g_r28_1
  | 2, _ => g_r28_2
  | 3, _ => g_r28_3
  | 4, _ => g_r28_4
  | 5, _ => g_r28_5
  | 6, _ => g_r28_6
  | 7, _ => g_r28_7
  | 8, _ => g_r28_8
  | 9, _ => g_r28_9
  | 10, _ => g_r28_10
  | 11, _ => g_r28_11
  | 12, _ => g_r28_12
  | 13, _ => g_r28_13
  | 14, _ => g_r28_14
  | 15, _ => g_r28_15
  | 16, _ => g_r28_16
  | 17, _ => g_r28_17
  | 18, _ => g_r28_18
  | 19, _ => g_r28_19
  | 20, _ => g_r28_20
  | 21, _ => g_r28_21
  | 22, _ => g_r28_22
  | 23, _ => g_r28_23
  | 24, _ => g_r28_24
  | 25, _ => g_r28_25
  | 26, _ => g_r28_26
  | 27, _ => g_r28_27
  | k + 28, h => absurd h (by omega)
theorem a_r29 : ∀ i, i < 29 → hpR 29 i = true := fun i h => match i, h with
  | 0, _ => g_r29_0
  | 1, _ => g_r29_1
  | 2, _ => g_r29_2
  | 3, _ => g_r29_3
  | 4, _ => g_r29_4
  | 5, _ => g_r29_5
  | 6, _ => g_r29_6
  | 7, _ => g_r29_7
  | 8, _ => g_r29_8
  | 9, _ => g_r29_9
  | 10, _ => g_r29_10
  | 11, _ => g_r29_11
  | 12, _ => g_r29_12
  | 13, _ => g_r29_13
  | 14, _ => g_r29_14
  | 15, _ => g_r29_15
  | 16, _ => g_r29_16
  | 17, _ => g_r29_17
  | 18, _ => g_r29_18
  | 19, _ => g_r29_19
  | 20, _ => g_r29_20
  | 21, _ => g_r29_21
  | 22, _ => g_r29_22
  | 23, _ => g_r29_23
  | 24, _ => g_r29_24
  | 25, _ => g_r29_25
  | 26, _ => g_r29_26
  | 27, _ => g_r29_27
  | 28, _ => g_r29_28
  | k + 29, h => absurd h (by omega)
theorem a_r30 : ∀ i, i < 30 → hpR 30 i = true := fun i h => match i, h with
  | 0, _ => g_r30_0
  | 1, _ => g_r30_1
  | 2, _ => g_r30_2
  | 3, _ => g_r30_3
  | 4, _ => g_r30_4
  | 5, _ => g_r30_5
  | 6, _ => g_r30_6
  | 7, _ => g_r30_7
  | 8, _ => g_r30_8
  | 9, _ => g_r30_9
  | 10, _ => g_r30_10
  | 11, _ => g_r30_11
  | 12, _ => g_r30_12
  | 13, _ => g_r30_13
  | 14, _ => g_r30_14
  | 15, _ => g_r30_15
  | 16, _ => g_r30_16
  | 17, _ => g_r30_17
  | 18, _ => g_r30_18
  | 19, _ => g_r30_19
  | 20, _ => g_r30_20
  | 21, _ => g_r30_21
  | 22, _ => g_r30_22
  | 23, _ => g_r30_23
  | 24, _ => g_r30_24
  | 25, _ => g_r30_25
  | 26, _ => g_r30_26
  | 27, _ => g_r30_27
  | 28, _ => g_r30_28
  | 29, _ => g_r30_29
  | k + 30, h => absurd h (by omega)
theorem a_r : ∀ n, n < 31 → ∀ i, i < n → hpR n i = true := fun n h => match n, h with
  | 0, _ => a_r0
  | 1, _ => a_r1
  | 2, _ => a_r2
  | 3, _ => a_r3
  | 4, _ => a_r4
  | 5, _ => a_r5
  | 6, _ => a_r6
  | 7, _ => a_r7
  | 8, _ => a_r8
  | 9, _ => a_r9
  | 10, _ => a_r10
  | 11, _ => a_r11
  | 12, _ => a_r12
  | 13, _ => a_r13
  | 14, _ => a_r14
  | 15, _ => a_r15
  | 16, _ => a_r16
  | 17, _ => a_r17
  | 18, _ => a_r18
  | 19, _ => a_r19
  | 20, _ => a_r20
  | 21, _ => a_r21
  | 22, _ => a_r22
  | 23, _ => a_r23
  | 24, _ => a_r24
  | 25, _ => a_r25
  | 26, _ => a_r26
  | 27, _ => a_r27
  | 28, _ => a_r28
  | 29, _ => a_r29
  | 30, _ => a_r30
  | k + 31, h => absurd h (by omega)
theorem a_okO : ∀ i, i < 31 → (patO i).okB 193 = true := fun i h => match i, h with
  | 0, _ => by kernel_rfl
  | 1, _ => by kernel_rfl
  | 2, _ => by kernel_rfl
  | 3, _ => by kernel_rfl
  | 4, _ => by kernel_rfl
  | 5, _ => by kernel_rfl
  | 6, _ => by kernel_rfl
  | 7, _ => by kernel_rfl
  | 8, _ => by kernel_rfl
  | 9, _ => by kernel_rfl
  | 10, _ => by kernel_rfl
  | 11, _ => by kernel_rfl
  | 12, _ => by kernel_rfl
  | 13, _ => by kernel_rfl
  | 14, _ => by kernel_rfl
  | 15, _ => by kernel_rfl
  | 16, _ => by kernel_rfl
  | 17, _ => by kernel_rfl
  | 18, _ => by kernel_rfl
  | 19, _ => by kernel_rfl
  | 20, _ => by kernel_rfl
  | 21, _ => by kernel_rfl
  | 22, _ => by kernel_rfl
  | 23, _ => by kernel_rfl
  | 24, _ => by kernel_rfl
  | 25, _ => by kernel_rfl
  | 26, _ => by kernel_rfl
  | 27, _ => by kernel_rfl
  | 28, _ => by kernel_rfl
  | 29, _ => by kernel_rfl
  | 30, _ => by kernel_rfl
  | k + 31, h => absurd h (by omega)
theorem k_S0 : ((List.range 1).all fun m => (patS 0 m).okB 193) = true := by kernel_rfl
theorem k_S1 : ((List.range 2).all fun m => (patS 1 m).okB 193) = true := by kernel_rfl
theorem k_S2 : ((List.range 3).all fun m => (patS 2 m).okB 193) = true := by kernel_rfl
theorem k_S3 : ((List.range 4).all fun m => (patS 3 m).okB 193) = true := by kernel_rfl
theorem k_S4 : ((List.range 5).all fun m => (patS 4 m).okB 193) = true := by kernel_rfl
theorem k_S5 : ((List.range 6).all fun m => (patS 5 m).okB 193) = true := by kernel_rfl
theorem k_S6 : ((List.range 7).all fun m => (patS 6 m).okB 193) = true := by kernel_rfl
theorem k_S7 : ((List.range 8).all fun m => (patS 7 m).okB 193) = true := by kernel_rfl
theorem k_S8 : ((List.range 9).all fun m => (patS 8 m).okB 193) = true := by kernel_rfl
theorem k_S9 : ((List.range 10).all fun m => (patS 9 m).okB 193) = true := by kernel_rfl
theorem k_S10 : ((List.range 11).all fun m => (patS 10 m).okB 193) = true := by kernel_rfl
theorem k_S11 : ((List.range 12).all fun m => (patS 11 m).okB 193) = true := by kernel_rfl
theorem k_S12 : ((List.range 13).all fun m => (patS 12 m).okB 193) = true := by kernel_rfl
theorem k_S13 : ((List.range 14).all fun m => (patS 13 m).okB 193) = true := by kernel_rfl
theorem k_S14 : ((List.range 15).all fun m => (patS 14 m).okB 193) = true := by kernel_rfl
theorem k_S15 : ((List.range 16).all fun m => (patS 15 m).okB 193) = true := by kernel_rfl
theorem k_S16 : ((List.range 17).all fun m => (patS 16 m).okB 193) = true := by kernel_rfl
theorem k_S17 : ((List.range 18).all fun m => (patS 17 m).okB 193) = true := by kernel_rfl
theorem k_S18 : ((List.range 19).all fun m => (patS 18 m).okB 193) = true := by kernel_rfl
theorem k_S19 : ((List.range 20).all fun m => (patS 19 m).okB 193) = true := by kernel_rfl
theorem k_S20 : ((List.range 21).all fun m => (patS 20 m).okB 193) = true := by kernel_rfl
theorem k_S21 : ((List.range 22).all fun m => (patS 21 m).okB 193) = true := by kernel_rfl
theorem k_S22 : ((List.range 23).all fun m => (patS 22 m).okB 193) = true := by kernel_rfl
theorem k_S23 : ((List.range 24).all fun m => (patS 23 m).okB 193) = true := by kernel_rfl
theorem k_S24 : ((List.range 25).all fun m => (patS 24 m).okB 193) = true := by kernel_rfl
theorem k_S25 : ((List.range 26).all fun m => (patS 25 m).okB 193) = true := by kernel_rfl
theorem k_S26 : ((List.range 27).all fun m => (patS 26 m).okB 193) = true := by kernel_rfl
theorem k_S27 : ((List.range 28).all fun m => (patS 27 m).okB 193) = true := by kernel_rfl
theorem k_S28 : ((List.range 29).all fun m => (patS 28 m).okB 193) = true := by kernel_rfl
theorem k_S29 : ((List.range 30).all fun m => (patS 29 m).okB 193) = true := by kernel_rfl
theorem k_S30 : ((List.range 31).all fun m => (patS 30 m).okB 193) = true := by kernel_rfl
theorem a_okS : ∀ n, n < 31 → ∀ m, m < n + 1 → (patS n m).okB 193 = true := fun n h => match n, h with
  | 0, _ => fun m hm => List.all_eq_true.1 k_S0 m (List.mem_range.2 hm)
  | 1, _ => fun m hm => List.all_eq_true.1 k_S1 m (List.mem_range.2 hm)
  | 2, _ => fun m hm => List.all_eq_true.1 k_S2 m (List.mem_range.2 hm)
  | 3, _ => fun m hm => List.all_eq_true.1 k_S3 m (List.mem_range.2 hm)
  | 4, _ => fun m hm => List.all_eq_true.1 k_S4 m (List.mem_range.2 hm)
  | 5, _ => fun m hm => List.all_eq_true.1 k_S5 m (List.mem_range.2 hm)
  | 6, _ => fun m hm => List.all_eq_true.1 k_S6 m (List.mem_range.2 hm)
  | 7, _ => fun m hm => List.all_eq_true.1 k_S7 m (List.mem_range.2 hm)
  | 8, _ => fun m hm => List.all_eq_true.1 k_S8 m (List.mem_range.2 hm)
  | 9, _ => fun m hm => List.all_eq_true.1 k_S9 m (List.mem_range.2 hm)
  | 10, _ => fun m hm => List.all_eq_true.1 k_S10 m (List.mem_range.2 hm)
  | 11, _ => fun m hm => List.all_eq_true.1 k_S11 m (List.mem_range.2 hm)
  | 12, _ => fun m hm => List.all_eq_true.1 k_S12 m (List.mem_range.2 hm)
  | 13, _ => fun m hm => List.all_eq_true.1 k_S13 m (List.mem_range.2 hm)
  | 14, _ => fun m hm => List.all_eq_true.1 k_S14 m (List.mem_range.2 hm)
  | 15, _ => fun m hm => List.all_eq_true.1 k_S15 m (List.mem_range.2 hm)
  | 16, _ => fun m hm => List.all_eq_true.1 k_S16 m (List.mem_range.2 hm)
  | 17, _ => fun m hm => List.all_eq_true.1 k_S17 m (List.mem_range.2 hm)
  | 18, _ => fun m hm => List.all_eq_true.1 k_S18 m (List.mem_range.2 hm)
  | 19, _ => fun m hm => List.all_eq_true.1 k_S19 m (List.mem_range.2 hm)
  | 20, _ => fun m hm => List.all_eq_true.1 k_S20 m (List.mem_range.2 hm)
  | 21, _ => fun m hm => List.all_eq_true.1 k_S21 m (List.mem_range.2 hm)
  | 22, _ => fun m hm => List.all_eq_true.1 k_S22 m (List.mem_range.2 hm)
  | 23, _ => fun m hm => List.all_eq_true.1 k_S23 m (List.mem_range.2 hm)
  | 24, _ => fun m hm => List.all_eq_true.1 k_S24 m (List.mem_range.2 hm)
  | 25, _ => fun m hm => List.all_eq_true.1 k_S25 m (List.mem_range.2 hm)
  | 26, _ => fun m hm => List.all_eq_true.1 k_S26 m (List.mem_range.2 hm)
  | 27, _ => fun m hm => List.all_eq_true.1 k_S27 m (List.mem_range.2 hm)
  | 28, _ => fun m hm => List.all_eq_true.1 k_S28 m (List.mem_range.2 hm)
  | 29, _ => fun m hm => List.all_eq_true.1 k_S29 m (List.mem_range.2 hm)
  | 30, _ => fun m hm => List.all_eq_true.1 k_S30 m (List.mem_range.2 hm)
  | k + 31, h => absurd h (by omega)
theorem k_R0 : ((List.range 1).all fun m => (patR 0 m).okB 193) = true := by kernel_rfl
theorem k_R1 : ((List.range 2).all fun m => (patR 1 m).okB 193) = true := by kernel_rfl
theorem k_R2 : ((List.range 3).all fun m => (patR 2 m).okB 193) = true := by kernel_rfl
theorem k_R3 : ((List.range 4).all fun m => (patR 3 m).okB 193) = true := by kernel_rfl
theorem k_R4 : ((List.range 5).all fun m => (patR 4 m).okB 193) = true := by kernel_rfl
theorem k_R5 : ((List.range 6).all fun m => (patR 5 m).okB 193) = true := by kernel_rfl
theorem k_R6 : ((List.range 7).all fun m => (patR 6 m).okB 193) = true := by kernel_rfl
theorem k_R7 : ((List.range 8).all fun m => (patR 7 m).okB 193) = true := by kernel_rfl
theorem k_R8 : ((List.range 9).all fun m => (patR 8 m).okB 193) = true := by kernel_rfl
theorem k_R9 : ((List.range 10).all fun m => (patR 9 m).okB 193) = true := by kernel_rfl
theorem k_R10 : ((List.range 11).all fun m => (patR 10 m).okB 193) = true := by kernel_rfl
theorem k_R11 : ((List.range 12).all fun m => (patR 11 m).okB 193) = true := by kernel_rfl
theorem k_R12 : ((List.range 13).all fun m => (patR 12 m).okB 193) = true := by kernel_rfl
theorem k_R13 : ((List.range 14).all fun m => (patR 13 m).okB 193) = true := by kernel_rfl
theorem k_R14 : ((List.range 15).all fun m => (patR 14 m).okB 193) = true := by kernel_rfl
theorem k_R15 : ((List.range 16).all fun m => (patR 15 m).okB 193) = true := by kernel_rfl
theorem k_R16 : ((List.range 17).all fun m => (patR 16 m).okB 193) = true := by kernel_rfl
theorem k_R17 : ((List.range 18).all fun m => (patR 17 m).okB 193) = true := by kernel_rfl
theorem k_R18 : ((List.range 19).all fun m => (patR 18 m).okB 193) = true := by kernel_rfl
theorem k_R19 : ((List.range 20).all fun m => (patR 19 m).okB 193) = true := by kernel_rfl
theorem k_R20 : ((List.range 21).all fun m => (patR 20 m).okB 193) = true := by kernel_rfl
theorem k_R21 : ((List.range 22).all fun m => (patR 21 m).okB 193) = true := by kernel_rfl
theorem k_R22 : ((List.range 23).all fun m => (patR 22 m).okB 193) = true := by kernel_rfl
theorem k_R23 : ((List.range 24).all fun m => (patR 23 m).okB 193) = true := by kernel_rfl
theorem k_R24 : ((List.range 25).all fun m => (patR 24 m).okB 193) = true := by kernel_rfl
theorem k_R25 : ((List.range 26).all fun m => (patR 25 m).okB 193) = true := by kernel_rfl
theorem k_R26 : ((List.range 27).all fun m => (patR 26 m).okB 193) = true := by kernel_rfl
theorem k_R27 : ((List.range 28).all fun m => (patR 27 m).okB 193) = true := by kernel_rfl
theorem k_R28 : ((List.range 29).all fun m => (patR 28 m).okB 193) = true := by kernel_rfl
theorem k_R29 : ((List.range 30).all fun m => (patR 29 m).okB 193) = true := by kernel_rfl
theorem k_R30 : ((List.range 31).all fun m => (patR 30 m).okB 193) = true := by kernel_rfl
theorem a_okR : ∀ n, n < 31 → ∀ m, m < n + 1 → (patR n m).okB 193 = true := fun n h => match n, h with
  | 0, _ => fun m hm => List.all_eq_true.1 k_R0 m (List.mem_range.2 hm)
  | 1, _ => fun m hm => List.all_eq_true.1 k_R1 m (List.mem_range.2 hm)
  | 2, _ => fun m hm => List.all_eq_true.1 k_R2 m (List.mem_range.2 hm)
  | 3, _ => fun m hm => List.all_eq_true.1 k_R3 m (List.mem_range.2 hm)
  | 4, _ => fun m hm => List.all_eq_true.1 k_R4 m (List.mem_range.2 hm)
  | 5, _ => fun m hm => List.all_eq_true.1 k_R5 m (List.mem_range.2 hm)
  | 6, _ => fun m hm => List.all_eq_true.1 k_R6 m (List.mem_range.2 hm)
  | 7, _ => fun m hm => List.all_eq_true.1 k_R7 m (List.mem_range.2 hm)
  | 8, _ => fun m hm => List.all_eq_true.1 k_R8 m (List.mem_range.2 hm)
  | 9, _ => fun m hm => List.all_eq_true.1 k_R9 m (List.mem_range.2 hm)
  | 10, _ => fun m hm => List.all_eq_true.1 k_R10 m (List.mem_range.2 hm)
  | 11, _ => fun m hm => List.all_eq_true.1 k_R11 m (List.mem_range.2 hm)
  | 12, _ => fun m hm => List.all_eq_true.1 k_R12 m (List.mem_range.2 hm)
  | 13, _ => fun m hm => List.all_eq_true.1 k_R13 m (List.mem_range.2 hm)
  | 14, _ => fun m hm => List.all_eq_true.1 k_R14 m (List.mem_range.2 hm)
  | 15, _ => fun m hm => List.all_eq_true.1 k_R15 m (List.mem_range.2 hm)
  | 16, _ => fun m hm => List.all_eq_true.1 k_R16 m (List.mem_range.2 hm)
  | 17, _ => fun m hm => List.all_eq_true.1 k_R17 m (List.mem_range.2 hm)
  | 18, _ => fun m hm => List.all_eq_true.1 k_R18 m (List.mem_range.2 hm)
  | 19, _ => fun m hm => List.all_eq_true.1 k_R19 m (List.mem_range.2 hm)
  | 20, _ => fun m hm => List.all_eq_true.1 k_R20 m (List.mem_range.2 hm)
  | 21, _ => fun m hm => List.all_eq_true.1 k_R21 m (List.mem_range.2 hm)
  | 22, _ => fun m hm => List.all_eq_true.1 k_R22 m (List.mem_range.2 hm)
  | 23, _ => fun m hm => List.all_eq_true.1 k_R23 m (List.mem_range.2 hm)
  | 24, _ => fun m hm => List.all_eq_true.1 k_R24 m (List.mem_range.2 hm)
  | 25, _ => fun m hm => List.all_eq_true.1 k_R25 m (List.mem_range.2 hm)
  | 26, _ => fun m hm => List.all_eq_true.1 k_R26 m (List.mem_range.2 hm)
  | 27, _ => fun m hm => List.all_eq_true.1 k_R27 m (List.mem_range.2 hm)
  | 28, _ => fun m hm => List.all_eq_true.1 k_R28 m (List.mem_range.2 hm)
  | 29, _ => fun m hm => List.all_eq_true.1 k_R29 m (List.mem_range.2 hm)
  | 30, _ => fun m hm => List.all_eq_true.1 k_R30 m (List.mem_range.2 hm)
  | k + 31, h => absurd h (by omega)
theorem allH : AllH where
  b := g_b
  o := a_o
  l := a_l
  e := a_e
  z := a_z
  x n h := a_x n (by omega)
  s n m h1 h2 := a_s n (by omega) m h2
  y n h := a_y n (by omega)
  r n m h1 h2 := a_r n (by omega) m h2
  w n h := a_w n (by omega)
  okO i h := a_okO i (by omega)
  okS n m h1 h2 := a_okS n (by omega) m (by omega)
  okR n m h1 h2 := a_okR n (by omega) m (by omega)

end Go.Proofs.YtooebogidjejoaaGreat

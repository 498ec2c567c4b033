/-
  HubPairs: runs, 4.
-/
import Derived.Test.YtooebogidjejoaaGreatHpp
set_option linter.unusedVariables false
set_option linter.unusedSimpArgs false
namespace Go.Proofs.YtooebogidjejoaaGreat
open Go

theorem g_o4 : hpO 4 = true := by kernel_rfl
theorem g_s2_1 : hpS 2 1 = true := by kernel_rfl
theorem g_s8_0 : hpS 8 0 = true := by kernel_rfl
theorem g_s11_1 : hpS 11 1 = true := by kernel_rfl
theorem g_s13_6 : hpS 13 6 = true := by kernel_rfl
theorem g_s15_7 : hpS 15 7 = true := by kernel_rfl
theorem g_s17_4 : hpS 17 4 = true := by kernel_rfl
theorem g_s18_15 : hpS 18 15 = true := by kernel_rfl
theorem g_s20_6 : hpS 20 6 = true := by kernel_rfl
theorem g_s21_14 : hpS 21 14 = true := by kernel_rfl
theorem g_s22_21 : hpS 22 21 = true := by kernel_rfl
theorem g_s24_4 : hpS 24 4 = true := by kernel_rfl
theorem g_s25_8 : hpS 25 8 = true := by kernel_rfl
theorem g_s26_11 : hpS 26 11 = true := by kernel_rfl
theorem g_s27_13 : hpS 27 13 = true := by kernel_rfl
theorem g_s28_14 : hpS 28 14 = true := by kernel_rfl
theorem g_s29_14 : hpS 29 14 = true := by kernel_rfl
theorem g_s30_13 : hpS 30 13 = true := by kernel_rfl
theorem g_r6_1 : hpR 6 1 = true := by kernel_rfl
theorem g_w9 : hpW 9 = true := by kernel_rfl
theorem g_r11_2 : hpR 11 2 = true := by kernel_rfl
theorem g_r13_1 : hpR 13 1 = true := by kernel_rfl
theorem g_r14_13 : hpR 14 13 = true := by kernel_rfl
theorem g_r16_6 : hpR 16 6 = true := by kernel_rfl
theorem g_r17_15 : hpR 17 15 = true := by kernel_rfl
theorem g_r19_2 : hpR 19 2 = true := by kernel_rfl
theorem g_r20_8 : hpR 20 8 = true := by kernel_rfl
theorem g_r21_13 : hpR 21 13 = true := by kernel_rfl
theorem g_r22_17 : hpR 22 17 = true := by kernel_rfl
theorem g_r23_20 : hpR 23 20 = true := by kernel_rfl
theorem g_r24_22 : hpR 24 22 = true := by kernel_rfl
theorem g_r25_23 : hpR 25 23 = true := by kernel_rfl
theorem g_r26_23 : hpR 26 23 = true := by kernel_rfl
theorem g_r27_22 : hpR 27 22 = true := by kernel_rfl
theorem g_r28_20 : hpR 28 20 = true := by kernel_rfl
theorem g_r29_17 : hpR 29 17 = true := by kernel_rfl
theorem g_r30_13 : hpR 30 13 = true := by kernel_rfl
theorem g_e4 : hpE 4 = true := by kernel_rfl
theorem g_z13 : hpZ 13 = true := by kernel_rfl
theorem g_l23 : hpL 23 = true := by kernel_rfl

end Go.Proofs.YtooebogidjejoaaGreat

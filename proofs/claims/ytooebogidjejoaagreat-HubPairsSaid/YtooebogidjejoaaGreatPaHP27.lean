/-
  HubPairs: runs, 27.
-/
import Derived.Test.YtooebogidjejoaaGreatHpp
set_option linter.unusedVariables false
set_option linter.unusedSimpArgs false
namespace Go.Proofs.YtooebogidjejoaaGreat
open Go

theorem g_o27 : hpO 27 = true := by kernel_rfl
theorem g_s7_4 : hpS 7 4 = true := by kernel_rfl
theorem g_s10_6 : hpS 10 6 = true := by kernel_rfl
theorem g_s13_1 : hpS 13 1 = true := by kernel_rfl
theorem g_s15_2 : hpS 15 2 = true := by kernel_rfl
theorem g_s16_15 : hpS 16 15 = true := by kernel_rfl
theorem g_s18_10 : hpS 18 10 = true := by kernel_rfl
theorem g_s20_1 : hpS 20 1 = true := by kernel_rfl
theorem g_s21_9 : hpS 21 9 = true := by kernel_rfl
theorem g_s22_16 : hpS 22 16 = true := by kernel_rfl
theorem g_s23_22 : hpS 23 22 = true := by kernel_rfl
theorem g_s25_3 : hpS 25 3 = true := by kernel_rfl
theorem g_s26_6 : hpS 26 6 = true := by kernel_rfl
theorem g_s27_8 : hpS 27 8 = true := by kernel_rfl
theorem g_s28_9 : hpS 28 9 = true := by kernel_rfl
theorem g_s29_9 : hpS 29 9 = true := by kernel_rfl
theorem g_s30_8 : hpS 30 8 = true := by kernel_rfl
theorem g_w1 : hpW 1 = true := by kernel_rfl
theorem g_r2_1 : hpR 2 1 = true := by kernel_rfl
theorem g_r3_2 : hpR 3 2 = true := by kernel_rfl
theorem g_x5 : hpX 5 = true := by kernel_rfl
theorem g_y6 : hpY 6 = true := by kernel_rfl
theorem g_r8_7 : hpR 8 7 = true := by kernel_rfl
theorem g_w11 : hpW 11 = true := by kernel_rfl
theorem g_y13 : hpY 13 = true := by kernel_rfl
theorem g_r14_10 : hpR 14 10 = true := by kernel_rfl
theorem g_r16_3 : hpR 16 3 = true := by kernel_rfl
theorem g_r17_12 : hpR 17 12 = true := by kernel_rfl
theorem g_w19 : hpW 19 = true := by kernel_rfl
theorem g_r20_5 : hpR 20 5 = true := by kernel_rfl
theorem g_r21_10 : hpR 21 10 = true := by kernel_rfl
theorem g_r22_14 : hpR 22 14 = true := by kernel_rfl
theorem g_r23_17 : hpR 23 17 = true := by kernel_rfl
theorem g_r24_19 : hpR 24 19 = true := by kernel_rfl
theorem g_r25_20 : hpR 25 20 = true := by kernel_rfl
theorem g_r26_20 : hpR 26 20 = true := by kernel_rfl
theorem g_r27_19 : hpR 27 19 = true := by kernel_rfl
theorem g_r28_17 : hpR 28 17 = true := by kernel_rfl
theorem g_r29_14 : hpR 29 14 = true := by kernel_rfl
theorem g_r30_10 : hpR 30 10 = true := by kernel_rfl
theorem g_z2 : hpZ 2 = true := by kernel_rfl
theorem g_l12 : hpL 12 = true := by kernel_rfl
theorem g_e21 : hpE 21 = true := by kernel_rfl

end Go.Proofs.YtooebogidjejoaaGreat

/-
  HubPairs: runs, 26.
-/
import Derived.Test.YtooebogidjejoaaGreatHpp
set_option linter.unusedVariables false
set_option linter.unusedSimpArgs false
namespace Go.Proofs.YtooebogidjejoaaGreat
open Go

theorem g_o26 : hpO 26 = true := by kernel_rfl
theorem g_s7_3 : hpS 7 3 = true := by kernel_rfl
theorem g_s10_5 : hpS 10 5 = true := by kernel_rfl
theorem g_s13_0 : hpS 13 0 = true := by kernel_rfl
theorem g_s15_1 : hpS 15 1 = true := by kernel_rfl
theorem g_s16_14 : hpS 16 14 = true := by kernel_rfl
theorem g_s18_9 : hpS 18 9 = true := by kernel_rfl
theorem g_s20_0 : hpS 20 0 = true := by kernel_rfl
theorem g_s21_8 : hpS 21 8 = true := by kernel_rfl
theorem g_s22_15 : hpS 22 15 = true := by kernel_rfl
theorem g_s23_21 : hpS 23 21 = true := by kernel_rfl
theorem g_s25_2 : hpS 25 2 = true := by kernel_rfl
theorem g_s26_5 : hpS 26 5 = true := by kernel_rfl
theorem g_s27_7 : hpS 27 7 = true := by kernel_rfl
theorem g_s28_8 : hpS 28 8 = true := by kernel_rfl
theorem g_s29_8 : hpS 29 8 = true := by kernel_rfl
theorem g_s30_7 : hpS 30 7 = true := by kernel_rfl
theorem g_y1 : hpY 1 = true := by kernel_rfl
theorem g_r2_0 : hpR 2 0 = true := by kernel_rfl
theorem g_r3_1 : hpR 3 1 = true := by kernel_rfl
theorem g_r4_3 : hpR 4 3 = true := by kernel_rfl
theorem g_x6 : hpX 6 = true := by kernel_rfl
theorem g_r8_6 : hpR 8 6 = true := by kernel_rfl
theorem g_y11 : hpY 11 = true := by kernel_rfl
theorem g_x13 : hpX 13 = true := by kernel_rfl
theorem g_r14_9 : hpR 14 9 = true := by kernel_rfl
theorem g_r16_2 : hpR 16 2 = true := by kernel_rfl
theorem g_r17_11 : hpR 17 11 = true := by kernel_rfl
theorem g_y19 : hpY 19 = true := by kernel_rfl
theorem g_r20_4 : hpR 20 4 = true := by kernel_rfl
theorem g_r21_9 : hpR 21 9 = true := by kernel_rfl
theorem g_r22_13 : hpR 22 13 = true := by kernel_rfl
theorem g_r23_16 : hpR 23 16 = true := by kernel_rfl
theorem g_r24_18 : hpR 24 18 = true := by kernel_rfl
theorem g_r25_19 : hpR 25 19 = true := by kernel_rfl
theorem g_r26_19 : hpR 26 19 = true := by kernel_rfl
theorem g_r27_18 : hpR 27 18 = true := by kernel_rfl
theorem g_r28_16 : hpR 28 16 = true := by kernel_rfl
theorem g_r29_13 : hpR 29 13 = true := by kernel_rfl
theorem g_r30_9 : hpR 30 9 = true := by kernel_rfl
theorem g_e2 : hpE 2 = true := by kernel_rfl
theorem g_z11 : hpZ 11 = true := by kernel_rfl
theorem g_l21 : hpL 21 = true := by kernel_rfl

end Go.Proofs.YtooebogidjejoaaGreat

/-
  HubPairs: runs, 23.
-/
import Derived.Test.YtooebogidjejoaaGreatHpp
set_option linter.unusedVariables false
set_option linter.unusedSimpArgs false
namespace Go.Proofs.YtooebogidjejoaaGreat
open Go

theorem g_o23 : hpO 23 = true := by kernel_rfl
theorem g_s7_0 : hpS 7 0 = true := by kernel_rfl
theorem g_s10_2 : hpS 10 2 = true := by kernel_rfl
theorem g_s12_9 : hpS 12 9 = true := by kernel_rfl
theorem g_s14_12 : hpS 14 12 = true := by kernel_rfl
theorem g_s16_11 : hpS 16 11 = true := by kernel_rfl
theorem g_s18_6 : hpS 18 6 = true := by kernel_rfl
theorem g_s19_16 : hpS 19 16 = true := by kernel_rfl
theorem g_s21_5 : hpS 21 5 = true := by kernel_rfl
theorem g_s22_12 : hpS 22 12 = true := by kernel_rfl
theorem g_s23_18 : hpS 23 18 = true := by kernel_rfl
theorem g_s24_23 : hpS 24 23 = true := by kernel_rfl
theorem g_s26_2 : hpS 26 2 = true := by kernel_rfl
theorem g_s27_4 : hpS 27 4 = true := by kernel_rfl
theorem g_s28_5 : hpS 28 5 = true := by kernel_rfl
theorem g_s29_5 : hpS 29 5 = true := by kernel_rfl
theorem g_s30_4 : hpS 30 4 = true := by kernel_rfl
theorem g_y0 : hpY 0 = true := by kernel_rfl
theorem g_x2 : hpX 2 = true := by kernel_rfl
theorem g_y3 : hpY 3 = true := by kernel_rfl
theorem g_r4_0 : hpR 4 0 = true := by kernel_rfl
theorem g_r5_2 : hpR 5 2 = true := by kernel_rfl
theorem g_r8_3 : hpR 8 3 = true := by kernel_rfl
theorem g_r10_8 : hpR 10 8 = true := by kernel_rfl
theorem g_r12_9 : hpR 12 9 = true := by kernel_rfl
theorem g_r14_6 : hpR 14 6 = true := by kernel_rfl
theorem g_w16 : hpW 16 = true := by kernel_rfl
theorem g_r17_8 : hpR 17 8 = true := by kernel_rfl
theorem g_r18_16 : hpR 18 16 = true := by kernel_rfl
theorem g_r20_1 : hpR 20 1 = true := by kernel_rfl
theorem g_r21_6 : hpR 21 6 = true := by kernel_rfl
theorem g_r22_10 : hpR 22 10 = true := by kernel_rfl
theorem g_r23_13 : hpR 23 13 = true := by kernel_rfl
theorem g_r24_15 : hpR 24 15 = true := by kernel_rfl
theorem g_r25_16 : hpR 25 16 = true := by kernel_rfl
theorem g_r26_16 : hpR 26 16 = true := by kernel_rfl
theorem g_r27_15 : hpR 27 15 = true := by kernel_rfl
theorem g_r28_13 : hpR 28 13 = true := by kernel_rfl
theorem g_r29_10 : hpR 29 10 = true := by kernel_rfl
theorem g_r30_6 : hpR 30 6 = true := by kernel_rfl
theorem g_e1 : hpE 1 = true := by kernel_rfl
theorem g_z10 : hpZ 10 = true := by kernel_rfl
theorem g_l20 : hpL 20 = true := by kernel_rfl
theorem g_e29 : hpE 29 = true := by kernel_rfl

end Go.Proofs.YtooebogidjejoaaGreat

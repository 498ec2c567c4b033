/-
  HubPairs: runs, 22.
-/
import Derived.Test.YtooebogidjejoaaGreatHpp
set_option linter.unusedVariables false
set_option linter.unusedSimpArgs false
namespace Go.Proofs.YtooebogidjejoaaGreat
open Go

theorem g_o22 : hpO 22 = true := by kernel_rfl
theorem g_s6_5 : hpS 6 5 = true := by kernel_rfl
theorem g_s10_1 : hpS 10 1 = true := by kernel_rfl
theorem g_s12_8 : hpS 12 8 = true := by kernel_rfl
theorem g_s14_11 : hpS 14 11 = true := by kernel_rfl
theorem g_s16_10 : hpS 16 10 = true := by kernel_rfl
theorem g_s18_5 : hpS 18 5 = true := by kernel_rfl
theorem g_s19_15 : hpS 19 15 = true := by kernel_rfl
theorem g_s21_4 : hpS 21 4 = true := by kernel_rfl
theorem g_s22_11 : hpS 22 11 = true := by kernel_rfl
theorem g_s23_17 : hpS 23 17 = true := by kernel_rfl
theorem g_s24_22 : hpS 24 22 = true := by kernel_rfl
theorem g_s26_1 : hpS 26 1 = true := by kernel_rfl
theorem g_s27_3 : hpS 27 3 = true := by kernel_rfl
theorem g_s28_4 : hpS 28 4 = true := by kernel_rfl
theorem g_s29_4 : hpS 29 4 = true := by kernel_rfl
theorem g_s30_3 : hpS 30 3 = true := by kernel_rfl
theorem g_x0 : hpX 0 = true := by kernel_rfl
theorem g_r1_0 : hpR 1 0 = true := by kernel_rfl
theorem g_x3 : hpX 3 = true := by kernel_rfl
theorem g_w4 : hpW 4 = true := by kernel_rfl
theorem g_r5_1 : hpR 5 1 = true := by kernel_rfl
theorem g_r8_2 : hpR 8 2 = true := by kernel_rfl
theorem g_r10_7 : hpR 10 7 = true := by kernel_rfl
theorem g_r12_8 : hpR 12 8 = true := by kernel_rfl
theorem g_r14_5 : hpR 14 5 = true := by kernel_rfl
theorem g_y16 : hpY 16 = true := by kernel_rfl
theorem g_r17_7 : hpR 17 7 = true := by kernel_rfl
theorem g_r18_15 : hpR 18 15 = true := by kernel_rfl
theorem g_r20_0 : hpR 20 0 = true := by kernel_rfl
theorem g_r21_5 : hpR 21 5 = true := by kernel_rfl
theorem g_r22_9 : hpR 22 9 = true := by kernel_rfl
theorem g_r23_12 : hpR 23 12 = true := by kernel_rfl
theorem g_r24_14 : hpR 24 14 = true := by kernel_rfl
theorem g_r25_15 : hpR 25 15 = true := by kernel_rfl
theorem g_r26_15 : hpR 26 15 = true := by kernel_rfl
theorem g_r27_14 : hpR 27 14 = true := by kernel_rfl
theorem g_r28_12 : hpR 28 12 = true := by kernel_rfl
theorem g_r29_9 : hpR 29 9 = true := by kernel_rfl
theorem g_r30_5 : hpR 30 5 = true := by kernel_rfl
theorem g_l1 : hpL 1 = true := by kernel_rfl
theorem g_e10 : hpE 10 = true := by kernel_rfl
theorem g_z19 : hpZ 19 = true := by kernel_rfl
theorem g_l29 : hpL 29 = true := by kernel_rfl

end Go.Proofs.YtooebogidjejoaaGreat

/-
  HubPairs: runs, 1.
-/
import Derived.Test.YtooebogidjejoaaGreatHpp
set_option linter.unusedVariables false
set_option linter.unusedSimpArgs false
namespace Go.Proofs.YtooebogidjejoaaGreat
open Go

theorem g_o1 : hpO 1 = true := by kernel_rfl
theorem g_o29 : hpO 29 = true := by kernel_rfl
theorem g_s10_8 : hpS 10 8 = true := by kernel_rfl
theorem g_s13_3 : hpS 13 3 = true := by kernel_rfl
theorem g_s15_4 : hpS 15 4 = true := by kernel_rfl
theorem g_s17_1 : hpS 17 1 = true := by kernel_rfl
theorem g_s18_12 : hpS 18 12 = true := by kernel_rfl
theorem g_s20_3 : hpS 20 3 = true := by kernel_rfl
theorem g_s21_11 : hpS 21 11 = true := by kernel_rfl
theorem g_s22_18 : hpS 22 18 = true := by kernel_rfl
theorem g_s24_1 : hpS 24 1 = true := by kernel_rfl
theorem g_s25_5 : hpS 25 5 = true := by kernel_rfl
theorem g_s26_8 : hpS 26 8 = true := by kernel_rfl
theorem g_s27_10 : hpS 27 10 = true := by kernel_rfl
theorem g_s28_11 : hpS 28 11 = true := by kernel_rfl
theorem g_s29_11 : hpS 29 11 = true := by kernel_rfl
theorem g_s30_10 : hpS 30 10 = true := by kernel_rfl
theorem g_y4 : hpY 4 = true := by kernel_rfl
theorem g_w5 : hpW 5 = true := by kernel_rfl
theorem g_r8_0 : hpR 8 0 = true := by kernel_rfl
theorem g_r10_5 : hpR 10 5 = true := by kernel_rfl
theorem g_r12_6 : hpR 12 6 = true := by kernel_rfl
theorem g_r14_3 : hpR 14 3 = true := by kernel_rfl
theorem g_r15_14 : hpR 15 14 = true := by kernel_rfl
theorem g_r17_5 : hpR 17 5 = true := by kernel_rfl
theorem g_r18_13 : hpR 18 13 = true := by kernel_rfl
theorem g_y20 : hpY 20 = true := by kernel_rfl
theorem g_r21_3 : hpR 21 3 = true := by kernel_rfl
theorem g_r22_7 : hpR 22 7 = true := by kernel_rfl
theorem g_r23_10 : hpR 23 10 = true := by kernel_rfl
theorem g_r24_12 : hpR 24 12 = true := by kernel_rfl
theorem g_r25_13 : hpR 25 13 = true := by kernel_rfl
theorem g_r26_13 : hpR 26 13 = true := by kernel_rfl
theorem g_r27_12 : hpR 27 12 = true := by kernel_rfl
theorem g_r28_10 : hpR 28 10 = true := by kernel_rfl
theorem g_r29_7 : hpR 29 7 = true := by kernel_rfl
theorem g_r30_3 : hpR 30 3 = true := by kernel_rfl
theorem g_e0 : hpE 0 = true := by kernel_rfl
theorem g_e3 : hpE 3 = true := by kernel_rfl
theorem g_z12 : hpZ 12 = true := by kernel_rfl
theorem g_l22 : hpL 22 = true := by kernel_rfl

end Go.Proofs.YtooebogidjejoaaGreat

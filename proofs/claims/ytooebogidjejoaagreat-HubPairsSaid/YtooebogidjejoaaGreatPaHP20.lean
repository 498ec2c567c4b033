/-
  HubPairs: runs, 20.
-/
import Derived.Test.YtooebogidjejoaaGreatHpp
set_option linter.unusedVariables false
set_option linter.unusedSimpArgs false
namespace Go.Proofs.YtooebogidjejoaaGreat
open Go

theorem g_o20 : hpO 20 = true := by kernel_rfl
theorem g_s6_3 : hpS 6 3 = true := by kernel_rfl
theorem g_s9_8 : hpS 9 8 = true := by kernel_rfl
theorem g_s12_6 : hpS 12 6 = true := by kernel_rfl
theorem g_s14_9 : hpS 14 9 = true := by kernel_rfl
theorem g_s16_8 : hpS 16 8 = true := by kernel_rfl
theorem g_s18_3 : hpS 18 3 = true := by kernel_rfl
theorem g_s19_13 : hpS 19 13 = true := by kernel_rfl
theorem g_s21_2 : hpS 21 2 = true := by kernel_rfl
theorem g_s22_9 : hpS 22 9 = true := by kernel_rfl
theorem g_s23_15 : hpS 23 15 = true := by kernel_rfl
theorem g_s24_20 : hpS 24 20 = true := by kernel_rfl
theorem g_s25_24 : hpS 25 24 = true := by kernel_rfl
theorem g_s27_1 : hpS 27 1 = true := by kernel_rfl
theorem g_s28_2 : hpS 28 2 = true := by kernel_rfl
theorem g_s29_2 : hpS 29 2 = true := by kernel_rfl
theorem g_s30_1 : hpS 30 1 = true := by kernel_rfl
theorem g_s30_29 : hpS 30 29 = true := by kernel_rfl
theorem g_y8 : hpY 8 = true := by kernel_rfl
theorem g_r10_3 : hpR 10 3 = true := by kernel_rfl
theorem g_r12_4 : hpR 12 4 = true := by kernel_rfl
theorem g_r14_1 : hpR 14 1 = true := by kernel_rfl
theorem g_r15_12 : hpR 15 12 = true := by kernel_rfl
theorem g_r17_3 : hpR 17 3 = true := by kernel_rfl
theorem g_r18_11 : hpR 18 11 = true := by kernel_rfl
theorem g_r19_18 : hpR 19 18 = true := by kernel_rfl
theorem g_r21_1 : hpR 21 1 = true := by kernel_rfl
theorem g_r22_5 : hpR 22 5 = true := by kernel_rfl
theorem g_r23_8 : hpR 23 8 = true := by kernel_rfl
theorem g_r24_10 : hpR 24 10 = true := by kernel_rfl
theorem g_r25_11 : hpR 25 11 = true := by kernel_rfl
theorem g_r26_11 : hpR 26 11 = true := by kernel_rfl
theorem g_r27_10 : hpR 27 10 = true := by kernel_rfl
theorem g_r28_8 : hpR 28 8 = true := by kernel_rfl
theorem g_r29_5 : hpR 29 5 = true := by kernel_rfl
theorem g_r30_1 : hpR 30 1 = true := by kernel_rfl
theorem g_r30_29 : hpR 30 29 = true := by kernel_rfl
theorem g_z9 : hpZ 9 = true := by kernel_rfl
theorem g_l19 : hpL 19 = true := by kernel_rfl
theorem g_e28 : hpE 28 = true := by kernel_rfl

end Go.Proofs.YtooebogidjejoaaGreat

/-
  HubPairs: runs, 19.
-/
import Derived.Test.YtooebogidjejoaaGreatHpp
set_option linter.unusedVariables false
set_option linter.unusedSimpArgs false
namespace Go.Proofs.YtooebogidjejoaaGreat
open Go

theorem g_o19 : hpO 19 = true := by kernel_rfl
theorem g_s6_2 : hpS 6 2 = true := by kernel_rfl
theorem g_s9_7 : hpS 9 7 = true := by kernel_rfl
theorem g_s12_5 : hpS 12 5 = true := by kernel_rfl
theorem g_s14_8 : hpS 14 8 = true := by kernel_rfl
theorem g_s16_7 : hpS 16 7 = true := by kernel_rfl
theorem g_s18_2 : hpS 18 2 = true := by kernel_rfl
theorem g_s19_12 : hpS 19 12 = true := by kernel_rfl
theorem g_s21_1 : hpS 21 1 = true := by kernel_rfl
theorem g_s22_8 : hpS 22 8 = true := by kernel_rfl
theorem g_s23_14 : hpS 23 14 = true := by kernel_rfl
theorem g_s24_19 : hpS 24 19 = true := by kernel_rfl
theorem g_s25_23 : hpS 25 23 = true := by kernel_rfl
theorem g_s27_0 : hpS 27 0 = true := by kernel_rfl
theorem g_s28_1 : hpS 28 1 = true := by kernel_rfl
theorem g_s29_1 : hpS 29 1 = true := by kernel_rfl
theorem g_s30_0 : hpS 30 0 = true := by kernel_rfl
theorem g_s30_28 : hpS 30 28 = true := by kernel_rfl
theorem g_x8 : hpX 8 = true := by kernel_rfl
theorem g_r10_2 : hpR 10 2 = true := by kernel_rfl
theorem g_r12_3 : hpR 12 3 = true := by kernel_rfl
theorem g_r14_0 : hpR 14 0 = true := by kernel_rfl
theorem g_r15_11 : hpR 15 11 = true := by kernel_rfl
theorem g_r17_2 : hpR 17 2 = true := by kernel_rfl
theorem g_r18_10 : hpR 18 10 = true := by kernel_rfl
theorem g_r19_17 : hpR 19 17 = true := by kernel_rfl
theorem g_r21_0 : hpR 21 0 = true := by kernel_rfl
theorem g_r22_4 : hpR 22 4 = true := by kernel_rfl
theorem g_r23_7 : hpR 23 7 = true := by kernel_rfl
theorem g_r24_9 : hpR 24 9 = true := by kernel_rfl
theorem g_r25_10 : hpR 25 10 = true := by kernel_rfl
theorem g_r26_10 : hpR 26 10 = true := by kernel_rfl
theorem g_r27_9 : hpR 27 9 = true := by kernel_rfl
theorem g_r28_7 : hpR 28 7 = true := by kernel_rfl
theorem g_r29_4 : hpR 29 4 = true := by kernel_rfl
theorem g_r30_0 : hpR 30 0 = true := by kernel_rfl
theorem g_r30_28 : hpR 30 28 = true := by kernel_rfl
theorem g_e9 : hpE 9 = true := by kernel_rfl
theorem g_z18 : hpZ 18 = true := by kernel_rfl
theorem g_l28 : hpL 28 = true := by kernel_rfl

end Go.Proofs.YtooebogidjejoaaGreat

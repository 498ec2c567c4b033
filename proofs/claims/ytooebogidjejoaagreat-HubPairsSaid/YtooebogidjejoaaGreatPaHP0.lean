/-
  HubPairs: runs, 0.
-/
import Derived.Test.YtooebogidjejoaaGreatHpp
set_option linter.unusedVariables false
set_option linter.unusedSimpArgs false
namespace Go.Proofs.YtooebogidjejoaaGreat
open Go

theorem g_o0 : hpO 0 = true := by kernel_rfl
theorem g_o28 : hpO 28 = true := by kernel_rfl
theorem g_s10_7 : hpS 10 7 = true := by kernel_rfl
theorem g_s13_2 : hpS 13 2 = true := by kernel_rfl
theorem g_s15_3 : hpS 15 3 = true := by kernel_rfl
theorem g_s17_0 : hpS 17 0 = true := by kernel_rfl
theorem g_s18_11 : hpS 18 11 = true := by kernel_rfl
theorem g_s20_2 : hpS 20 2 = true := by kernel_rfl
theorem g_s21_10 : hpS 21 10 = true := by kernel_rfl
theorem g_s22_17 : hpS 22 17 = true := by kernel_rfl
theorem g_s24_0 : hpS 24 0 = true := by kernel_rfl
theorem g_s25_4 : hpS 25 4 = true := by kernel_rfl
theorem g_s26_7 : hpS 26 7 = true := by kernel_rfl
theorem g_s27_9 : hpS 27 9 = true := by kernel_rfl
theorem g_s28_10 : hpS 28 10 = true := by kernel_rfl
theorem g_s29_10 : hpS 29 10 = true := by kernel_rfl
theorem g_s30_9 : hpS 30 9 = true := by kernel_rfl
theorem g_x4 : hpX 4 = true := by kernel_rfl
theorem g_y5 : hpY 5 = true := by kernel_rfl
theorem g_w8 : hpW 8 = true := by kernel_rfl
theorem g_r10_4 : hpR 10 4 = true := by kernel_rfl
theorem g_r12_5 : hpR 12 5 = true := by kernel_rfl
theorem g_r14_2 : hpR 14 2 = true := by kernel_rfl
theorem g_r15_13 : hpR 15 13 = true := by kernel_rfl
theorem g_r17_4 : hpR 17 4 = true := by kernel_rfl
theorem g_r18_12 : hpR 18 12 = true := by kernel_rfl
theorem g_x20 : hpX 20 = true := by kernel_rfl
theorem g_r21_2 : hpR 21 2 = true := by kernel_rfl
theorem g_r22_6 : hpR 22 6 = true := by kernel_rfl
theorem g_r23_9 : hpR 23 9 = true := by kernel_rfl
theorem g_r24_11 : hpR 24 11 = true := by kernel_rfl
theorem g_r25_12 : hpR 25 12 = true := by kernel_rfl
theorem g_r26_12 : hpR 26 12 = true := by kernel_rfl
theorem g_r27_11 : hpR 27 11 = true := by kernel_rfl
theorem g_r28_9 : hpR 28 9 = true := by kernel_rfl
theorem g_r29_6 : hpR 29 6 = true := by kernel_rfl
theorem g_r30_2 : hpR 30 2 = true := by kernel_rfl
theorem g_l0 : hpL 0 = true := by kernel_rfl
theorem g_l3 : hpL 3 = true := by kernel_rfl
theorem g_e12 : hpE 12 = true := by kernel_rfl
theorem g_z21 : hpZ 21 = true := by kernel_rfl

end Go.Proofs.YtooebogidjejoaaGreat

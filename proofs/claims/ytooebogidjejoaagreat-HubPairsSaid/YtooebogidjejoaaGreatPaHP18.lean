/-
  HubPairs: runs, 18.
-/
import Derived.Test.YtooebogidjejoaaGreatHpp
set_option linter.unusedVariables false
set_option linter.unusedSimpArgs false
namespace Go.Proofs.YtooebogidjejoaaGreat
open Go

theorem g_o18 : hpO 18 = true := by kernel_rfl
theorem g_s6_1 : hpS 6 1 = true := by kernel_rfl
theorem g_s9_6 : hpS 9 6 = true := by kernel_rfl
theorem g_s12_4 : hpS 12 4 = true := by kernel_rfl
theorem g_s14_7 : hpS 14 7 = true := by kernel_rfl
theorem g_s16_6 : hpS 16 6 = true := by kernel_rfl
theorem g_s18_1 : hpS 18 1 = true := by kernel_rfl
theorem g_s19_11 : hpS 19 11 = true := by kernel_rfl
theorem g_s21_0 : hpS 21 0 = true := by kernel_rfl
theorem g_s22_7 : hpS 22 7 = true := by kernel_rfl
theorem g_s23_13 : hpS 23 13 = true := by kernel_rfl
theorem g_s24_18 : hpS 24 18 = true := by kernel_rfl
theorem g_s25_22 : hpS 25 22 = true := by kernel_rfl
theorem g_s26_25 : hpS 26 25 = true := by kernel_rfl
theorem g_s28_0 : hpS 28 0 = true := by kernel_rfl
theorem g_s29_0 : hpS 29 0 = true := by kernel_rfl
theorem g_s29_28 : hpS 29 28 = true := by kernel_rfl
theorem g_s30_27 : hpS 30 27 = true := by kernel_rfl
theorem g_r7_6 : hpR 7 6 = true := by kernel_rfl
theorem g_r10_1 : hpR 10 1 = true := by kernel_rfl
theorem g_r12_2 : hpR 12 2 = true := by kernel_rfl
theorem g_w14 : hpW 14 = true := by kernel_rfl
theorem g_r15_10 : hpR 15 10 = true := by kernel_rfl
theorem g_r17_1 : hpR 17 1 = true := by kernel_rfl
theorem g_r18_9 : hpR 18 9 = true := by kernel_rfl
theorem g_r19_16 : hpR 19 16 = true := by kernel_rfl
theorem g_w21 : hpW 21 = true := by kernel_rfl
theorem g_r22_3 : hpR 22 3 = true := by kernel_rfl
theorem g_r23_6 : hpR 23 6 = true := by kernel_rfl
theorem g_r24_8 : hpR 24 8 = true := by kernel_rfl
theorem g_r25_9 : hpR 25 9 = true := by kernel_rfl
theorem g_r26_9 : hpR 26 9 = true := by kernel_rfl
theorem g_r27_8 : hpR 27 8 = true := by kernel_rfl
theorem g_r28_6 : hpR 28 6 = true := by kernel_rfl
theorem g_r29_3 : hpR 29 3 = true := by kernel_rfl
theorem g_w30 : hpW 30 = true := by kernel_rfl
theorem g_r30_27 : hpR 30 27 = true := by kernel_rfl
theorem g_l9 : hpL 9 = true := by kernel_rfl
theorem g_e18 : hpE 18 = true := by kernel_rfl
theorem g_z27 : hpZ 27 = true := by kernel_rfl

end Go.Proofs.YtooebogidjejoaaGreat

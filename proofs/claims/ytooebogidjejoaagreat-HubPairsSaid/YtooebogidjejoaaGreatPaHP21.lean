/-
  HubPairs: runs, 21.
-/
import Derived.Test.YtooebogidjejoaaGreatHpp
set_option linter.unusedVariables false
set_option linter.unusedSimpArgs false
namespace Go.Proofs.YtooebogidjejoaaGreat
open Go

theorem g_o21 : hpO 21 = true := by kernel_rfl
theorem g_s6_4 : hpS 6 4 = true := by kernel_rfl
theorem g_s10_0 : hpS 10 0 = true := by kernel_rfl
theorem g_s12_7 : hpS 12 7 = true := by kernel_rfl
theorem g_s14_10 : hpS 14 10 = true := by kernel_rfl
theorem g_s16_9 : hpS 16 9 = true := by kernel_rfl
theorem g_s18_4 : hpS 18 4 = true := by kernel_rfl
theorem g_s19_14 : hpS 19 14 = true := by kernel_rfl
theorem g_s21_3 : hpS 21 3 = true := by kernel_rfl
theorem g_s22_10 : hpS 22 10 = true := by kernel_rfl
theorem g_s23_16 : hpS 23 16 = true := by kernel_rfl
theorem g_s24_21 : hpS 24 21 = true := by kernel_rfl
theorem g_s26_0 : hpS 26 0 = true := by kernel_rfl
theorem g_s27_2 : hpS 27 2 = true := by kernel_rfl
theorem g_s28_3 : hpS 28 3 = true := by kernel_rfl
theorem g_s29_3 : hpS 29 3 = true := by kernel_rfl
theorem g_s30_2 : hpS 30 2 = true := by kernel_rfl
theorem g_b : allE begR thirtyF = true := by kernel_rfl
theorem g_r5_0 : hpR 5 0 = true := by kernel_rfl
theorem g_r8_1 : hpR 8 1 = true := by kernel_rfl
theorem g_r10_6 : hpR 10 6 = true := by kernel_rfl
theorem g_r12_7 : hpR 12 7 = true := by kernel_rfl
theorem g_r14_4 : hpR 14 4 = true := by kernel_rfl
theorem g_x16 : hpX 16 = true := by kernel_rfl
theorem g_r17_6 : hpR 17 6 = true := by kernel_rfl
theorem g_r18_14 : hpR 18 14 = true := by kernel_rfl
theorem g_w20 : hpW 20 = true := by kernel_rfl
theorem g_r21_4 : hpR 21 4 = true := by kernel_rfl
theorem g_r22_8 : hpR 22 8 = true := by kernel_rfl
theorem g_r23_11 : hpR 23 11 = true := by kernel_rfl
theorem g_r24_13 : hpR 24 13 = true := by kernel_rfl
theorem g_r25_14 : hpR 25 14 = true := by kernel_rfl
theorem g_r26_14 : hpR 26 14 = true := by kernel_rfl
theorem g_r27_13 : hpR 27 13 = true := by kernel_rfl
theorem g_r28_11 : hpR 28 11 = true := by kernel_rfl
theorem g_r29_8 : hpR 29 8 = true := by kernel_rfl
theorem g_r30_4 : hpR 30 4 = true := by kernel_rfl
theorem g_z0 : hpZ 0 = true := by kernel_rfl
theorem g_l10 : hpL 10 = true := by kernel_rfl
theorem g_e19 : hpE 19 = true := by kernel_rfl
theorem g_z28 : hpZ 28 = true := by kernel_rfl

end Go.Proofs.YtooebogidjejoaaGreat

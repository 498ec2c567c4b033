/-
  HubPairs: runs, 25.
-/
import Derived.Test.YtooebogidjejoaaGreatHpp
set_option linter.unusedVariables false
set_option linter.unusedSimpArgs false
namespace Go.Proofs.YtooebogidjejoaaGreat
open Go

theorem g_o25 : hpO 25 = true := by kernel_rfl
theorem g_s7_2 : hpS 7 2 = true := by kernel_rfl
theorem g_s10_4 : hpS 10 4 = true := by kernel_rfl
theorem g_s12_11 : hpS 12 11 = true := by kernel_rfl
theorem g_s15_0 : hpS 15 0 = true := by kernel_rfl
theorem g_s16_13 : hpS 16 13 = true := by kernel_rfl
theorem g_s18_8 : hpS 18 8 = true := by kernel_rfl
theorem g_s19_18 : hpS 19 18 = true := by kernel_rfl
theorem g_s21_7 : hpS 21 7 = true := by kernel_rfl
theorem g_s22_14 : hpS 22 14 = true := by kernel_rfl
theorem g_s23_20 : hpS 23 20 = true := by kernel_rfl
theorem g_s25_1 : hpS 25 1 = true := by kernel_rfl
theorem g_s26_4 : hpS 26 4 = true := by kernel_rfl
theorem g_s27_6 : hpS 27 6 = true := by kernel_rfl
theorem g_s28_7 : hpS 28 7 = true := by kernel_rfl
theorem g_s29_7 : hpS 29 7 = true := by kernel_rfl
theorem g_s30_6 : hpS 30 6 = true := by kernel_rfl
theorem g_x1 : hpX 1 = true := by kernel_rfl
theorem g_w2 : hpW 2 = true := by kernel_rfl
theorem g_r3_0 : hpR 3 0 = true := by kernel_rfl
theorem g_r4_2 : hpR 4 2 = true := by kernel_rfl
theorem g_r5_4 : hpR 5 4 = true := by kernel_rfl
theorem g_r8_5 : hpR 8 5 = true := by kernel_rfl
theorem g_x11 : hpX 11 = true := by kernel_rfl
theorem g_r12_11 : hpR 12 11 = true := by kernel_rfl
theorem g_r14_8 : hpR 14 8 = true := by kernel_rfl
theorem g_r16_1 : hpR 16 1 = true := by kernel_rfl
theorem g_r17_10 : hpR 17 10 = true := by kernel_rfl
theorem g_x19 : hpX 19 = true := by kernel_rfl
theorem g_r20_3 : hpR 20 3 = true := by kernel_rfl
theorem g_r21_8 : hpR 21 8 = true := by kernel_rfl
theorem g_r22_12 : hpR 22 12 = true := by kernel_rfl
theorem g_r23_15 : hpR 23 15 = true := by kernel_rfl
theorem g_r24_17 : hpR 24 17 = true := by kernel_rfl
theorem g_r25_18 : hpR 25 18 = true := by kernel_rfl
theorem g_r26_18 : hpR 26 18 = true := by kernel_rfl
theorem g_r27_17 : hpR 27 17 = true := by kernel_rfl
theorem g_r28_15 : hpR 28 15 = true := by kernel_rfl
theorem g_r29_12 : hpR 29 12 = true := by kernel_rfl
theorem g_r30_8 : hpR 30 8 = true := by kernel_rfl
theorem g_l2 : hpL 2 = true := by kernel_rfl
theorem g_e11 : hpE 11 = true := by kernel_rfl
theorem g_z20 : hpZ 20 = true := by kernel_rfl

end Go.Proofs.YtooebogidjejoaaGreat

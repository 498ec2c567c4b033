/-
  HubPairs: runs, 24.
-/
import Derived.Test.YtooebogidjejoaaGreatHpp
set_option linter.unusedVariables false
set_option linter.unusedSimpArgs false
namespace Go.Proofs.YtooebogidjejoaaGreat
open Go

theorem g_o24 : hpO 24 = true := by kernel_rfl
theorem g_s7_1 : hpS 7 1 = true := by kernel_rfl
theorem g_s10_3 : hpS 10 3 = true := by kernel_rfl
theorem g_s12_10 : hpS 12 10 = true := by kernel_rfl
theorem g_s14_13 : hpS 14 13 = true := by kernel_rfl
theorem g_s16_12 : hpS 16 12 = true := by kernel_rfl
theorem g_s18_7 : hpS 18 7 = true := by kernel_rfl
theorem g_s19_17 : hpS 19 17 = true := by kernel_rfl
theorem g_s21_6 : hpS 21 6 = true := by kernel_rfl
theorem g_s22_13 : hpS 22 13 = true := by kernel_rfl
theorem g_s23_19 : hpS 23 19 = true := by kernel_rfl
theorem g_s25_0 : hpS 25 0 = true := by kernel_rfl
theorem g_s26_3 : hpS 26 3 = true := by kernel_rfl
theorem g_s27_5 : hpS 27 5 = true := by kernel_rfl
theorem g_s28_6 : hpS 28 6 = true := by kernel_rfl
theorem g_s29_6 : hpS 29 6 = true := by kernel_rfl
theorem g_s30_5 : hpS 30 5 = true := by kernel_rfl
theorem g_w0 : hpW 0 = true := by kernel_rfl
theorem g_y2 : hpY 2 = true := by kernel_rfl
theorem g_w3 : hpW 3 = true := by kernel_rfl
theorem g_r4_1 : hpR 4 1 = true := by kernel_rfl
theorem g_r5_3 : hpR 5 3 = true := by kernel_rfl
theorem g_r8_4 : hpR 8 4 = true := by kernel_rfl
theorem g_r10_9 : hpR 10 9 = true := by kernel_rfl
theorem g_r12_10 : hpR 12 10 = true := by kernel_rfl
theorem g_r14_7 : hpR 14 7 = true := by kernel_rfl
theorem g_r16_0 : hpR 16 0 = true := by kernel_rfl
theorem g_r17_9 : hpR 17 9 = true := by kernel_rfl
theorem g_r18_17 : hpR 18 17 = true := by kernel_rfl
theorem g_r20_2 : hpR 20 2 = true := by kernel_rfl
theorem g_r21_7 : hpR 21 7 = true := by kernel_rfl
theorem g_r22_11 : hpR 22 11 = true := by kernel_rfl
theorem g_r23_14 : hpR 23 14 = true := by kernel_rfl
theorem g_r24_16 : hpR 24 16 = true := by kernel_rfl
theorem g_r25_17 : hpR 25 17 = true := by kernel_rfl
theorem g_r26_17 : hpR 26 17 = true := by kernel_rfl
theorem g_r27_16 : hpR 27 16 = true := by kernel_rfl
theorem g_r28_14 : hpR 28 14 = true := by kernel_rfl
theorem g_r29_11 : hpR 29 11 = true := by kernel_rfl
theorem g_r30_7 : hpR 30 7 = true := by kernel_rfl
theorem g_z1 : hpZ 1 = true := by kernel_rfl
theorem g_l11 : hpL 11 = true := by kernel_rfl
theorem g_e20 : hpE 20 = true := by kernel_rfl
theorem g_z29 : hpZ 29 = true := by kernel_rfl

end Go.Proofs.YtooebogidjejoaaGreat

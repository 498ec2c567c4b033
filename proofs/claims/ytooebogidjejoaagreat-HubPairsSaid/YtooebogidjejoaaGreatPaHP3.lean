/-
  HubPairs: runs, 3.
-/
import Derived.Test.YtooebogidjejoaaGreatHpp
set_option linter.unusedVariables false
set_option linter.unusedSimpArgs false
namespace Go.Proofs.YtooebogidjejoaaGreat
open Go

theorem g_o3 : hpO 3 = true := by kernel_rfl
theorem g_s2_0 : hpS 2 0 = true := by kernel_rfl
theorem g_s7_6 : hpS 7 6 = true := by kernel_rfl
theorem g_s11_0 : hpS 11 0 = true := by kernel_rfl
theorem g_s13_5 : hpS 13 5 = true := by kernel_rfl
theorem g_s15_6 : hpS 15 6 = true := by kernel_rfl
theorem g_s17_3 : hpS 17 3 = true := by kernel_rfl
theorem g_s18_14 : hpS 18 14 = true := by kernel_rfl
theorem g_s20_5 : hpS 20 5 = true := by kernel_rfl
theorem g_s21_13 : hpS 21 13 = true := by kernel_rfl
theorem g_s22_20 : hpS 22 20 = true := by kernel_rfl
theorem g_s24_3 : hpS 24 3 = true := by kernel_rfl
theorem g_s25_7 : hpS 25 7 = true := by kernel_rfl
theorem g_s26_10 : hpS 26 10 = true := by kernel_rfl
theorem g_s27_12 : hpS 27 12 = true := by kernel_rfl
theorem g_s28_13 : hpS 28 13 = true := by kernel_rfl
theorem g_s29_13 : hpS 29 13 = true := by kernel_rfl
theorem g_s30_12 : hpS 30 12 = true := by kernel_rfl
theorem g_r6_0 : hpR 6 0 = true := by kernel_rfl
theorem g_y9 : hpY 9 = true := by kernel_rfl
theorem g_r11_1 : hpR 11 1 = true := by kernel_rfl
theorem g_r13_0 : hpR 13 0 = true := by kernel_rfl
theorem g_r14_12 : hpR 14 12 = true := by kernel_rfl
theorem g_r16_5 : hpR 16 5 = true := by kernel_rfl
theorem g_r17_14 : hpR 17 14 = true := by kernel_rfl
theorem g_r19_1 : hpR 19 1 = true := by kernel_rfl
theorem g_r20_7 : hpR 20 7 = true := by kernel_rfl
theorem g_r21_12 : hpR 21 12 = true := by kernel_rfl
theorem g_r22_16 : hpR 22 16 = true := by kernel_rfl
theorem g_r23_19 : hpR 23 19 = true := by kernel_rfl
theorem g_r24_21 : hpR 24 21 = true := by kernel_rfl
theorem g_r25_22 : hpR 25 22 = true := by kernel_rfl
theorem g_r26_22 : hpR 26 22 = true := by kernel_rfl
theorem g_r27_21 : hpR 27 21 = true := by kernel_rfl
theorem g_r28_19 : hpR 28 19 = true := by kernel_rfl
theorem g_r29_16 : hpR 29 16 = true := by kernel_rfl
theorem g_r30_12 : hpR 30 12 = true := by kernel_rfl
theorem g_l4 : hpL 4 = true := by kernel_rfl
theorem g_e13 : hpE 13 = true := by kernel_rfl
theorem g_z22 : hpZ 22 = true := by kernel_rfl

end Go.Proofs.YtooebogidjejoaaGreat

/-
  HubPairs: runs, 5.
-/
import Derived.Test.YtooebogidjejoaaGreatHpp
set_option linter.unusedVariables false
set_option linter.unusedSimpArgs false
namespace Go.Proofs.YtooebogidjejoaaGreat
open Go

theorem g_o5 : hpO 5 = true := by kernel_rfl
theorem g_s3_0 : hpS 3 0 = true := by kernel_rfl
theorem g_s8_1 : hpS 8 1 = true := by kernel_rfl
theorem g_s11_2 : hpS 11 2 = true := by kernel_rfl
theorem g_s13_7 : hpS 13 7 = true := by kernel_rfl
theorem g_s15_8 : hpS 15 8 = true := by kernel_rfl
theorem g_s17_5 : hpS 17 5 = true := by kernel_rfl
theorem g_s18_16 : hpS 18 16 = true := by kernel_rfl
theorem g_s20_7 : hpS 20 7 = true := by kernel_rfl
theorem g_s21_15 : hpS 21 15 = true := by kernel_rfl
theorem g_s23_0 : hpS 23 0 = true := by kernel_rfl
theorem g_s24_5 : hpS 24 5 = true := by kernel_rfl
theorem g_s25_9 : hpS 25 9 = true := by kernel_rfl
theorem g_s26_12 : hpS 26 12 = true := by kernel_rfl
theorem g_s27_14 : hpS 27 14 = true := by kernel_rfl
theorem g_s28_15 : hpS 28 15 = true := by kernel_rfl
theorem g_s29_15 : hpS 29 15 = true := by kernel_rfl
theorem g_s30_14 : hpS 30 14 = true := by kernel_rfl
theorem g_r6_2 : hpR 6 2 = true := by kernel_rfl
theorem g_r9_0 : hpR 9 0 = true := by kernel_rfl
theorem g_r11_3 : hpR 11 3 = true := by kernel_rfl
theorem g_r13_2 : hpR 13 2 = true := by kernel_rfl
theorem g_x15 : hpX 15 = true := by kernel_rfl
theorem g_r16_7 : hpR 16 7 = true := by kernel_rfl
theorem g_r17_16 : hpR 17 16 = true := by kernel_rfl
theorem g_r19_3 : hpR 19 3 = true := by kernel_rfl
theorem g_r20_9 : hpR 20 9 = true := by kernel_rfl
theorem g_r21_14 : hpR 21 14 = true := by kernel_rfl
theorem g_r22_18 : hpR 22 18 = true := by kernel_rfl
theorem g_r23_21 : hpR 23 21 = true := by kernel_rfl
theorem g_r24_23 : hpR 24 23 = true := by kernel_rfl
theorem g_r25_24 : hpR 25 24 = true := by kernel_rfl
theorem g_r26_24 : hpR 26 24 = true := by kernel_rfl
theorem g_r27_23 : hpR 27 23 = true := by kernel_rfl
theorem g_r28_21 : hpR 28 21 = true := by kernel_rfl
theorem g_r29_18 : hpR 29 18 = true := by kernel_rfl
theorem g_r30_14 : hpR 30 14 = true := by kernel_rfl
theorem g_z4 : hpZ 4 = true := by kernel_rfl
theorem g_l14 : hpL 14 = true := by kernel_rfl
theorem g_e23 : hpE 23 = true := by kernel_rfl

end Go.Proofs.YtooebogidjejoaaGreat

/-
  HubPairs: runs, 6.
-/
import Derived.Test.YtooebogidjejoaaGreatHpp
set_option linter.unusedVariables false
set_option linter.unusedSimpArgs false
namespace Go.Proofs.YtooebogidjejoaaGreat
open Go

theorem g_o6 : hpO 6 = true := by kernel_rfl
theorem g_s3_1 : hpS 3 1 = true := by kernel_rfl
theorem g_s8_2 : hpS 8 2 = true := by kernel_rfl
theorem g_s11_3 : hpS 11 3 = true := by kernel_rfl
theorem g_s13_8 : hpS 13 8 = true := by kernel_rfl
theorem g_s15_9 : hpS 15 9 = true := by kernel_rfl
theorem g_s17_6 : hpS 17 6 = true := by kernel_rfl
theorem g_s18_17 : hpS 18 17 = true := by kernel_rfl
theorem g_s20_8 : hpS 20 8 = true := by kernel_rfl
theorem g_s21_16 : hpS 21 16 = true := by kernel_rfl
theorem g_s23_1 : hpS 23 1 = true := by kernel_rfl
theorem g_s24_6 : hpS 24 6 = true := by kernel_rfl
theorem g_s25_10 : hpS 25 10 = true := by kernel_rfl
theorem g_s26_13 : hpS 26 13 = true := by kernel_rfl
theorem g_s27_15 : hpS 27 15 = true := by kernel_rfl
theorem g_s28_16 : hpS 28 16 = true := by kernel_rfl
theorem g_s29_16 : hpS 29 16 = true := by kernel_rfl
theorem g_s30_15 : hpS 30 15 = true := by kernel_rfl
theorem g_r6_3 : hpR 6 3 = true := by kernel_rfl
theorem g_r9_1 : hpR 9 1 = true := by kernel_rfl
theorem g_r11_4 : hpR 11 4 = true := by kernel_rfl
theorem g_r13_3 : hpR 13 3 = true := by kernel_rfl
theorem g_y15 : hpY 15 = true := by kernel_rfl
theorem g_r16_8 : hpR 16 8 = true := by kernel_rfl
theorem g_x18 : hpX 18 = true := by kernel_rfl
theorem g_r19_4 : hpR 19 4 = true := by kernel_rfl
theorem g_r20_10 : hpR 20 10 = true := by kernel_rfl
theorem g_r21_15 : hpR 21 15 = true := by kernel_rfl
theorem g_r22_19 : hpR 22 19 = true := by kernel_rfl
theorem g_r23_22 : hpR 23 22 = true := by kernel_rfl
theorem g_x25 : hpX 25 = true := by kernel_rfl
theorem g_x26 : hpX 26 = true := by kernel_rfl
theorem g_r26_25 : hpR 26 25 = true := by kernel_rfl
theorem g_r27_24 : hpR 27 24 = true := by kernel_rfl
theorem g_r28_22 : hpR 28 22 = true := by kernel_rfl
theorem g_r29_19 : hpR 29 19 = true := by kernel_rfl
theorem g_r30_15 : hpR 30 15 = true := by kernel_rfl
theorem g_l5 : hpL 5 = true := by kernel_rfl
theorem g_e14 : hpE 14 = true := by kernel_rfl
theorem g_z23 : hpZ 23 = true := by kernel_rfl

end Go.Proofs.YtooebogidjejoaaGreat

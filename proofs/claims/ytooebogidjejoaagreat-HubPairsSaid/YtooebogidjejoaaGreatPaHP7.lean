/-
  HubPairs: runs, 7.
-/
import Derived.Test.YtooebogidjejoaaGreatHpp
set_option linter.unusedVariables false
set_option linter.unusedSimpArgs false
namespace Go.Proofs.YtooebogidjejoaaGreat
open Go

theorem g_o7 : hpO 7 = true := by kernel_rfl
theorem g_s3_2 : hpS 3 2 = true := by kernel_rfl
theorem g_s8_3 : hpS 8 3 = true := by kernel_rfl
theorem g_s11_4 : hpS 11 4 = true := by kernel_rfl
theorem g_s13_9 : hpS 13 9 = true := by kernel_rfl
theorem g_s15_10 : hpS 15 10 = true := by kernel_rfl
theorem g_s17_7 : hpS 17 7 = true := by kernel_rfl
theorem g_s19_0 : hpS 19 0 = true := by kernel_rfl
theorem g_s20_9 : hpS 20 9 = true := by kernel_rfl
theorem g_s21_17 : hpS 21 17 = true := by kernel_rfl
theorem g_s23_2 : hpS 23 2 = true := by kernel_rfl
theorem g_s24_7 : hpS 24 7 = true := by kernel_rfl
theorem g_s25_11 : hpS 25 11 = true := by kernel_rfl
theorem g_s26_14 : hpS 26 14 = true := by kernel_rfl
theorem g_s27_16 : hpS 27 16 = true := by kernel_rfl
theorem g_s28_17 : hpS 28 17 = true := by kernel_rfl
theorem g_s29_17 : hpS 29 17 = true := by kernel_rfl
theorem g_s30_16 : hpS 30 16 = true := by kernel_rfl
theorem g_r6_4 : hpR 6 4 = true := by kernel_rfl
theorem g_r9_2 : hpR 9 2 = true := by kernel_rfl
theorem g_r11_5 : hpR 11 5 = true := by kernel_rfl
theorem g_r13_4 : hpR 13 4 = true := by kernel_rfl
theorem g_w15 : hpW 15 = true := by kernel_rfl
theorem g_r16_9 : hpR 16 9 = true := by kernel_rfl
theorem g_y18 : hpY 18 = true := by kernel_rfl
theorem g_r19_5 : hpR 19 5 = true := by kernel_rfl
theorem g_r20_11 : hpR 20 11 = true := by kernel_rfl
theorem g_r21_16 : hpR 21 16 = true := by kernel_rfl
theorem g_r22_20 : hpR 22 20 = true := by kernel_rfl
theorem g_x24 : hpX 24 = true := by kernel_rfl
theorem g_y25 : hpY 25 = true := by kernel_rfl
theorem g_y26 : hpY 26 = true := by kernel_rfl
theorem g_x27 : hpX 27 = true := by kernel_rfl
theorem g_r27_25 : hpR 27 25 = true := by kernel_rfl
theorem g_r28_23 : hpR 28 23 = true := by kernel_rfl
theorem g_r29_20 : hpR 29 20 = true := by kernel_rfl
theorem g_r30_16 : hpR 30 16 = true := by kernel_rfl
theorem g_e5 : hpE 5 = true := by kernel_rfl
theorem g_z14 : hpZ 14 = true := by kernel_rfl
theorem g_l24 : hpL 24 = true := by kernel_rfl

end Go.Proofs.YtooebogidjejoaaGreat

/-
  HubPairs: runs, 10.
-/
import Derived.Test.YtooebogidjejoaaGreatHpp
set_option linter.unusedVariables false
set_option linter.unusedSimpArgs false
namespace Go.Proofs.YtooebogidjejoaaGreat
open Go

theorem g_o10 : hpO 10 = true := by kernel_rfl
theorem g_s4_2 : hpS 4 2 = true := by kernel_rfl
theorem g_s8_6 : hpS 8 6 = true := by kernel_rfl
theorem g_s11_7 : hpS 11 7 = true := by kernel_rfl
theorem g_s13_12 : hpS 13 12 = true := by kernel_rfl
theorem g_s15_13 : hpS 15 13 = true := by kernel_rfl
theorem g_s17_10 : hpS 17 10 = true := by kernel_rfl
theorem g_s19_3 : hpS 19 3 = true := by kernel_rfl
theorem g_s20_12 : hpS 20 12 = true := by kernel_rfl
theorem g_s21_20 : hpS 21 20 = true := by kernel_rfl
theorem g_s23_5 : hpS 23 5 = true := by kernel_rfl
theorem g_s24_10 : hpS 24 10 = true := by kernel_rfl
theorem g_s25_14 : hpS 25 14 = true := by kernel_rfl
theorem g_s26_17 : hpS 26 17 = true := by kernel_rfl
theorem g_s27_19 : hpS 27 19 = true := by kernel_rfl
theorem g_s28_20 : hpS 28 20 = true := by kernel_rfl
theorem g_s29_20 : hpS 29 20 = true := by kernel_rfl
theorem g_s30_19 : hpS 30 19 = true := by kernel_rfl
theorem g_y7 : hpY 7 = true := by kernel_rfl
theorem g_r9_5 : hpR 9 5 = true := by kernel_rfl
theorem g_r11_8 : hpR 11 8 = true := by kernel_rfl
theorem g_r13_7 : hpR 13 7 = true := by kernel_rfl
theorem g_r15_2 : hpR 15 2 = true := by kernel_rfl
theorem g_r16_12 : hpR 16 12 = true := by kernel_rfl
theorem g_r18_1 : hpR 18 1 = true := by kernel_rfl
theorem g_r19_8 : hpR 19 8 = true := by kernel_rfl
theorem g_r20_14 : hpR 20 14 = true := by kernel_rfl
theorem g_r21_19 : hpR 21 19 = true := by kernel_rfl
theorem g_y23 : hpY 23 = true := by kernel_rfl
theorem g_r24_0 : hpR 24 0 = true := by kernel_rfl
theorem g_r25_1 : hpR 25 1 = true := by kernel_rfl
theorem g_r26_1 : hpR 26 1 = true := by kernel_rfl
theorem g_r27_0 : hpR 27 0 = true := by kernel_rfl
theorem g_y28 : hpY 28 = true := by kernel_rfl
theorem g_r28_26 : hpR 28 26 = true := by kernel_rfl
theorem g_r29_23 : hpR 29 23 = true := by kernel_rfl
theorem g_r30_19 : hpR 30 19 = true := by kernel_rfl
theorem g_e6 : hpE 6 = true := by kernel_rfl
theorem g_z15 : hpZ 15 = true := by kernel_rfl
theorem g_l25 : hpL 25 = true := by kernel_rfl

end Go.Proofs.YtooebogidjejoaaGreat

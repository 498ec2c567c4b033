/-
  HubPairs: runs, 2.
-/
import Derived.Test.YtooebogidjejoaaGreatHpp
set_option linter.unusedVariables false
set_option linter.unusedSimpArgs false
namespace Go.Proofs.YtooebogidjejoaaGreat
open Go

theorem g_o2 : hpO 2 = true := by kernel_rfl
theorem g_s1_0 : hpS 1 0 = true := by kernel_rfl
theorem g_s7_5 : hpS 7 5 = true := by kernel_rfl
theorem g_s10_9 : hpS 10 9 = true := by kernel_rfl
theorem g_s13_4 : hpS 13 4 = true := by kernel_rfl
theorem g_s15_5 : hpS 15 5 = true := by kernel_rfl
theorem g_s17_2 : hpS 17 2 = true := by kernel_rfl
theorem g_s18_13 : hpS 18 13 = true := by kernel_rfl
theorem g_s20_4 : hpS 20 4 = true := by kernel_rfl
theorem g_s21_12 : hpS 21 12 = true := by kernel_rfl
theorem g_s22_19 : hpS 22 19 = true := by kernel_rfl
theorem g_s24_2 : hpS 24 2 = true := by kernel_rfl
theorem g_s25_6 : hpS 25 6 = true := by kernel_rfl
theorem g_s26_9 : hpS 26 9 = true := by kernel_rfl
theorem g_s27_11 : hpS 27 11 = true := by kernel_rfl
theorem g_s28_12 : hpS 28 12 = true := by kernel_rfl
theorem g_s29_12 : hpS 29 12 = true := by kernel_rfl
theorem g_s30_11 : hpS 30 11 = true := by kernel_rfl
theorem g_w6 : hpW 6 = true := by kernel_rfl
theorem g_x9 : hpX 9 = true := by kernel_rfl
theorem g_r11_0 : hpR 11 0 = true := by kernel_rfl
theorem g_w13 : hpW 13 = true := by kernel_rfl
theorem g_r14_11 : hpR 14 11 = true := by kernel_rfl
theorem g_r16_4 : hpR 16 4 = true := by kernel_rfl
theorem g_r17_13 : hpR 17 13 = true := by kernel_rfl
theorem g_r19_0 : hpR 19 0 = true := by kernel_rfl
theorem g_r20_6 : hpR 20 6 = true := by kernel_rfl
theorem g_r21_11 : hpR 21 11 = true := by kernel_rfl
theorem g_r22_15 : hpR 22 15 = true := by kernel_rfl
theorem g_r23_18 : hpR 23 18 = true := by kernel_rfl
theorem g_r24_20 : hpR 24 20 = true := by kernel_rfl
theorem g_r25_21 : hpR 25 21 = true := by kernel_rfl
theorem g_r26_21 : hpR 26 21 = true := by kernel_rfl
theorem g_r27_20 : hpR 27 20 = true := by kernel_rfl
theorem g_r28_18 : hpR 28 18 = true := by kernel_rfl
theorem g_r29_15 : hpR 29 15 = true := by kernel_rfl
theorem g_r30_11 : hpR 30 11 = true := by kernel_rfl
theorem g_z3 : hpZ 3 = true := by kernel_rfl
theorem g_l13 : hpL 13 = true := by kernel_rfl
theorem g_e22 : hpE 22 = true := by kernel_rfl

end Go.Proofs.YtooebogidjejoaaGreat

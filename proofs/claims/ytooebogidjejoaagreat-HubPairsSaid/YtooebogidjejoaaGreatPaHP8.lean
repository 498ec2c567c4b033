/-
  HubPairs: runs, 8.
-/
import Derived.Test.YtooebogidjejoaaGreatHpp
set_option linter.unusedVariables false
set_option linter.unusedSimpArgs false
namespace Go.Proofs.YtooebogidjejoaaGreat
open Go

theorem g_o8 : hpO 8 = true := by kernel_rfl
theorem g_s4_0 : hpS 4 0 = true := by kernel_rfl
theorem g_s8_4 : hpS 8 4 = true := by kernel_rfl
theorem g_s11_5 : hpS 11 5 = true := by kernel_rfl
theorem g_s13_10 : hpS 13 10 = true := by kernel_rfl
theorem g_s15_11 : hpS 15 11 = true := by kernel_rfl
theorem g_s17_8 : hpS 17 8 = true := by kernel_rfl
theorem g_s19_1 : hpS 19 1 = true := by kernel_rfl
theorem g_s20_10 : hpS 20 10 = true := by kernel_rfl
theorem g_s21_18 : hpS 21 18 = true := by kernel_rfl
theorem g_s23_3 : hpS 23 3 = true := by kernel_rfl
theorem g_s24_8 : hpS 24 8 = true := by kernel_rfl
theorem g_s25_12 : hpS 25 12 = true := by kernel_rfl
theorem g_s26_15 : hpS 26 15 = true := by kernel_rfl
theorem g_s27_17 : hpS 27 17 = true := by kernel_rfl
theorem g_s28_18 : hpS 28 18 = true := by kernel_rfl
theorem g_s29_18 : hpS 29 18 = true := by kernel_rfl
theorem g_s30_17 : hpS 30 17 = true := by kernel_rfl
theorem g_r6_5 : hpR 6 5 = true := by kernel_rfl
theorem g_r9_3 : hpR 9 3 = true := by kernel_rfl
theorem g_r11_6 : hpR 11 6 = true := by kernel_rfl
theorem g_r13_5 : hpR 13 5 = true := by kernel_rfl
theorem g_r15_0 : hpR 15 0 = true := by kernel_rfl
theorem g_r16_10 : hpR 16 10 = true := by kernel_rfl
theorem g_w18 : hpW 18 = true := by kernel_rfl
theorem g_r19_6 : hpR 19 6 = true := by kernel_rfl
theorem g_r20_12 : hpR 20 12 = true := by kernel_rfl
theorem g_r21_17 : hpR 21 17 = true := by kernel_rfl
theorem g_r22_21 : hpR 22 21 = true := by kernel_rfl
theorem g_y24 : hpY 24 = true := by kernel_rfl
theorem g_w25 : hpW 25 = true := by kernel_rfl
theorem g_w26 : hpW 26 = true := by kernel_rfl
theorem g_y27 : hpY 27 = true := by kernel_rfl
theorem g_r27_26 : hpR 27 26 = true := by kernel_rfl
theorem g_r28_24 : hpR 28 24 = true := by kernel_rfl
theorem g_r29_21 : hpR 29 21 = true := by kernel_rfl
theorem g_r30_17 : hpR 30 17 = true := by kernel_rfl
theorem g_z5 : hpZ 5 = true := by kernel_rfl
theorem g_l15 : hpL 15 = true := by kernel_rfl
theorem g_e24 : hpE 24 = true := by kernel_rfl

end Go.Proofs.YtooebogidjejoaaGreat

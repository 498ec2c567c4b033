/-
  HubPairs: runs, 9.
-/
import Derived.Test.YtooebogidjejoaaGreatHpp
set_option linter.unusedVariables false
set_option linter.unusedSimpArgs false
namespace Go.Proofs.YtooebogidjejoaaGreat
open Go

theorem g_o9 : hpO 9 = true := by kernel_rfl
theorem g_s4_1 : hpS 4 1 = true := by kernel_rfl
theorem g_s8_5 : hpS 8 5 = true := by kernel_rfl
theorem g_s11_6 : hpS 11 6 = true := by kernel_rfl
theorem g_s13_11 : hpS 13 11 = true := by kernel_rfl
theorem g_s15_12 : hpS 15 12 = true := by kernel_rfl
theorem g_s17_9 : hpS 17 9 = true := by kernel_rfl
theorem g_s19_2 : hpS 19 2 = true := by kernel_rfl
theorem g_s20_11 : hpS 20 11 = true := by kernel_rfl
theorem g_s21_19 : hpS 21 19 = true := by kernel_rfl
theorem g_s23_4 : hpS 23 4 = true := by kernel_rfl
theorem g_s24_9 : hpS 24 9 = true := by kernel_rfl
theorem g_s25_13 : hpS 25 13 = true := by kernel_rfl
theorem g_s26_16 : hpS 26 16 = true := by kernel_rfl
theorem g_s27_18 : hpS 27 18 = true := by kernel_rfl
theorem g_s28_19 : hpS 28 19 = true := by kernel_rfl
theorem g_s29_19 : hpS 29 19 = true := by kernel_rfl
theorem g_s30_18 : hpS 30 18 = true := by kernel_rfl
theorem g_x7 : hpX 7 = true := by kernel_rfl
theorem g_r9_4 : hpR 9 4 = true := by kernel_rfl
theorem g_r11_7 : hpR 11 7 = true := by kernel_rfl
theorem g_r13_6 : hpR 13 6 = true := by kernel_rfl
theorem g_r15_1 : hpR 15 1 = true := by kernel_rfl
theorem g_r16_11 : hpR 16 11 = true := by kernel_rfl
theorem g_r18_0 : hpR 18 0 = true := by kernel_rfl
theorem g_r19_7 : hpR 19 7 = true := by kernel_rfl
theorem g_r20_13 : hpR 20 13 = true := by kernel_rfl
theorem g_r21_18 : hpR 21 18 = true := by kernel_rfl
theorem g_x23 : hpX 23 = true := by kernel_rfl
theorem g_w24 : hpW 24 = true := by kernel_rfl
theorem g_r25_0 : hpR 25 0 = true := by kernel_rfl
theorem g_r26_0 : hpR 26 0 = true := by kernel_rfl
theorem g_w27 : hpW 27 = true := by kernel_rfl
theorem g_x28 : hpX 28 = true := by kernel_rfl
theorem g_r28_25 : hpR 28 25 = true := by kernel_rfl
theorem g_r29_22 : hpR 29 22 = true := by kernel_rfl
theorem g_r30_18 : hpR 30 18 = true := by kernel_rfl
theorem g_l6 : hpL 6 = true := by kernel_rfl
theorem g_e15 : hpE 15 = true := by kernel_rfl
theorem g_z24 : hpZ 24 = true := by kernel_rfl

end Go.Proofs.YtooebogidjejoaaGreat

/-
  HubPairs: runs, 11.
-/
import Derived.Test.YtooebogidjejoaaGreatHpp
set_option linter.unusedVariables false
set_option linter.unusedSimpArgs false
namespace Go.Proofs.YtooebogidjejoaaGreat
open Go

theorem g_o11 : hpO 11 = true := by kernel_rfl
theorem g_s4_3 : hpS 4 3 = true := by kernel_rfl
theorem g_s8_7 : hpS 8 7 = true := by kernel_rfl
theorem g_s11_8 : hpS 11 8 = true := by kernel_rfl
theorem g_s14_0 : hpS 14 0 = true := by kernel_rfl
theorem g_s15_14 : hpS 15 14 = true := by kernel_rfl
theorem g_s17_11 : hpS 17 11 = true := by kernel_rfl
theorem g_s19_4 : hpS 19 4 = true := by kernel_rfl
theorem g_s20_13 : hpS 20 13 = true := by kernel_rfl
theorem g_s22_0 : hpS 22 0 = true := by kernel_rfl
theorem g_s23_6 : hpS 23 6 = true := by kernel_rfl
theorem g_s24_11 : hpS 24 11 = true := by kernel_rfl
theorem g_s25_15 : hpS 25 15 = true := by kernel_rfl
theorem g_s26_18 : hpS 26 18 = true := by kernel_rfl
theorem g_s27_20 : hpS 27 20 = true := by kernel_rfl
theorem g_s28_21 : hpS 28 21 = true := by kernel_rfl
theorem g_s29_21 : hpS 29 21 = true := by kernel_rfl
theorem g_s30_20 : hpS 30 20 = true := by kernel_rfl
theorem g_w7 : hpW 7 = true := by kernel_rfl
theorem g_r9_6 : hpR 9 6 = true := by kernel_rfl
theorem g_r11_9 : hpR 11 9 = true := by kernel_rfl
theorem g_r13_8 : hpR 13 8 = true := by kernel_rfl
theorem g_r15_3 : hpR 15 3 = true := by kernel_rfl
theorem g_r16_13 : hpR 16 13 = true := by kernel_rfl
theorem g_r18_2 : hpR 18 2 = true := by kernel_rfl
theorem g_r19_9 : hpR 19 9 = true := by kernel_rfl
theorem g_r20_15 : hpR 20 15 = true := by kernel_rfl
theorem g_r21_20 : hpR 21 20 = true := by kernel_rfl
theorem g_w23 : hpW 23 = true := by kernel_rfl
theorem g_r24_1 : hpR 24 1 = true := by kernel_rfl
theorem g_r25_2 : hpR 25 2 = true := by kernel_rfl
theorem g_r26_2 : hpR 26 2 = true := by kernel_rfl
theorem g_r27_1 : hpR 27 1 = true := by kernel_rfl
theorem g_w28 : hpW 28 = true := by kernel_rfl
theorem g_r28_27 : hpR 28 27 = true := by kernel_rfl
theorem g_r29_24 : hpR 29 24 = true := by kernel_rfl
theorem g_r30_20 : hpR 30 20 = true := by kernel_rfl
theorem g_z6 : hpZ 6 = true := by kernel_rfl
theorem g_l16 : hpL 16 = true := by kernel_rfl
theorem g_e25 : hpE 25 = true := by kernel_rfl

end Go.Proofs.YtooebogidjejoaaGreat

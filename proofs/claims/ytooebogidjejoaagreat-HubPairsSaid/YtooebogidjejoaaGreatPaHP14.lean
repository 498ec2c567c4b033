/-
  HubPairs: runs, 14.
-/
import Derived.Test.YtooebogidjejoaaGreatHpp
set_option linter.unusedVariables false
set_option linter.unusedSimpArgs false
namespace Go.Proofs.YtooebogidjejoaaGreat
open Go

theorem g_o14 : hpO 14 = true := by kernel_rfl
theorem g_s5_2 : hpS 5 2 = true := by kernel_rfl
theorem g_s9_2 : hpS 9 2 = true := by kernel_rfl
theorem g_s12_0 : hpS 12 0 = true := by kernel_rfl
theorem g_s14_3 : hpS 14 3 = true := by kernel_rfl
theorem g_s16_2 : hpS 16 2 = true := by kernel_rfl
theorem g_s17_14 : hpS 17 14 = true := by kernel_rfl
theorem g_s19_7 : hpS 19 7 = true := by kernel_rfl
theorem g_s20_16 : hpS 20 16 = true := by kernel_rfl
theorem g_s22_3 : hpS 22 3 = true := by kernel_rfl
theorem g_s23_9 : hpS 23 9 = true := by kernel_rfl
theorem g_s24_14 : hpS 24 14 = true := by kernel_rfl
theorem g_s25_18 : hpS 25 18 = true := by kernel_rfl
theorem g_s26_21 : hpS 26 21 = true := by kernel_rfl
theorem g_s27_23 : hpS 27 23 = true := by kernel_rfl
theorem g_s28_24 : hpS 28 24 = true := by kernel_rfl
theorem g_s29_24 : hpS 29 24 = true := by kernel_rfl
theorem g_s30_23 : hpS 30 23 = true := by kernel_rfl
theorem g_r7_2 : hpR 7 2 = true := by kernel_rfl
theorem g_x10 : hpX 10 = true := by kernel_rfl
theorem g_y12 : hpY 12 = true := by kernel_rfl
theorem g_r13_11 : hpR 13 11 = true := by kernel_rfl
theorem g_r15_6 : hpR 15 6 = true := by kernel_rfl
theorem g_x17 : hpX 17 = true := by kernel_rfl
theorem g_r18_5 : hpR 18 5 = true := by kernel_rfl
theorem g_r19_12 : hpR 19 12 = true := by kernel_rfl
theorem g_r20_18 : hpR 20 18 = true := by kernel_rfl
theorem g_w22 : hpW 22 = true := by kernel_rfl
theorem g_r23_2 : hpR 23 2 = true := by kernel_rfl
theorem g_r24_4 : hpR 24 4 = true := by kernel_rfl
theorem g_r25_5 : hpR 25 5 = true := by kernel_rfl
theorem g_r26_5 : hpR 26 5 = true := by kernel_rfl
theorem g_r27_4 : hpR 27 4 = true := by kernel_rfl
theorem g_r28_2 : hpR 28 2 = true := by kernel_rfl
theorem g_w29 : hpW 29 = true := by kernel_rfl
theorem g_r29_27 : hpR 29 27 = true := by kernel_rfl
theorem g_r30_23 : hpR 30 23 = true := by kernel_rfl
theorem g_z7 : hpZ 7 = true := by kernel_rfl
theorem g_l17 : hpL 17 = true := by kernel_rfl
theorem g_e26 : hpE 26 = true := by kernel_rfl

end Go.Proofs.YtooebogidjejoaaGreat

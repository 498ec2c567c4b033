/-
  HubPairs: runs, 15.
-/
import Derived.Test.YtooebogidjejoaaGreatHpp
set_option linter.unusedVariables false
set_option linter.unusedSimpArgs false
namespace Go.Proofs.YtooebogidjejoaaGreat
open Go

theorem g_o15 : hpO 15 = true := by kernel_rfl
theorem g_s5_3 : hpS 5 3 = true := by kernel_rfl
theorem g_s9_3 : hpS 9 3 = true := by kernel_rfl
theorem g_s12_1 : hpS 12 1 = true := by kernel_rfl
theorem g_s14_4 : hpS 14 4 = true := by kernel_rfl
theorem g_s16_3 : hpS 16 3 = true := by kernel_rfl
theorem g_s17_15 : hpS 17 15 = true := by kernel_rfl
theorem g_s19_8 : hpS 19 8 = true := by kernel_rfl
theorem g_s20_17 : hpS 20 17 = true := by kernel_rfl
theorem g_s22_4 : hpS 22 4 = true := by kernel_rfl
theorem g_s23_10 : hpS 23 10 = true := by kernel_rfl
theorem g_s24_15 : hpS 24 15 = true := by kernel_rfl
theorem g_s25_19 : hpS 25 19 = true := by kernel_rfl
theorem g_s26_22 : hpS 26 22 = true := by kernel_rfl
theorem g_s27_24 : hpS 27 24 = true := by kernel_rfl
theorem g_s28_25 : hpS 28 25 = true := by kernel_rfl
theorem g_s29_25 : hpS 29 25 = true := by kernel_rfl
theorem g_s30_24 : hpS 30 24 = true := by kernel_rfl
theorem g_r7_3 : hpR 7 3 = true := by kernel_rfl
theorem g_y10 : hpY 10 = true := by kernel_rfl
theorem g_w12 : hpW 12 = true := by kernel_rfl
theorem g_r13_12 : hpR 13 12 = true := by kernel_rfl
theorem g_r15_7 : hpR 15 7 = true := by kernel_rfl
theorem g_y17 : hpY 17 = true := by kernel_rfl
theorem g_r18_6 : hpR 18 6 = true := by kernel_rfl
theorem g_r19_13 : hpR 19 13 = true := by kernel_rfl
theorem g_r20_19 : hpR 20 19 = true := by kernel_rfl
theorem g_r22_0 : hpR 22 0 = true := by kernel_rfl
theorem g_r23_3 : hpR 23 3 = true := by kernel_rfl
theorem g_r24_5 : hpR 24 5 = true := by kernel_rfl
theorem g_r25_6 : hpR 25 6 = true := by kernel_rfl
theorem g_r26_6 : hpR 26 6 = true := by kernel_rfl
theorem g_r27_5 : hpR 27 5 = true := by kernel_rfl
theorem g_r28_3 : hpR 28 3 = true := by kernel_rfl
theorem g_r29_0 : hpR 29 0 = true := by kernel_rfl
theorem g_r29_28 : hpR 29 28 = true := by kernel_rfl
theorem g_r30_24 : hpR 30 24 = true := by kernel_rfl
theorem g_l8 : hpL 8 = true := by kernel_rfl
theorem g_e17 : hpE 17 = true := by kernel_rfl
theorem g_z26 : hpZ 26 = true := by kernel_rfl

end Go.Proofs.YtooebogidjejoaaGreat

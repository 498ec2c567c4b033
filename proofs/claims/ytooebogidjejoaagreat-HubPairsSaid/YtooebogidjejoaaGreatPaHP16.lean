/-
  HubPairs: runs, 16.
-/
import Derived.Test.YtooebogidjejoaaGreatHpp
set_option linter.unusedVariables false
set_option linter.unusedSimpArgs false
namespace Go.Proofs.YtooebogidjejoaaGreat
open Go

theorem g_o16 : hpO 16 = true := by kernel_rfl
theorem g_s5_4 : hpS 5 4 = true := by kernel_rfl
theorem g_s9_4 : hpS 9 4 = true := by kernel_rfl
theorem g_s12_2 : hpS 12 2 = true := by kernel_rfl
theorem g_s14_5 : hpS 14 5 = true := by kernel_rfl
theorem g_s16_4 : hpS 16 4 = true := by kernel_rfl
theorem g_s17_16 : hpS 17 16 = true := by kernel_rfl
theorem g_s19_9 : hpS 19 9 = true := by kernel_rfl
theorem g_s20_18 : hpS 20 18 = true := by kernel_rfl
theorem g_s22_5 : hpS 22 5 = true := by kernel_rfl
theorem g_s23_11 : hpS 23 11 = true := by kernel_rfl
theorem g_s24_16 : hpS 24 16 = true := by kernel_rfl
theorem g_s25_20 : hpS 25 20 = true := by kernel_rfl
theorem g_s26_23 : hpS 26 23 = true := by kernel_rfl
theorem g_s27_25 : hpS 27 25 = true := by kernel_rfl
theorem g_s28_26 : hpS 28 26 = true := by kernel_rfl
theorem g_s29_26 : hpS 29 26 = true := by kernel_rfl
theorem g_s30_25 : hpS 30 25 = true := by kernel_rfl
theorem g_r7_4 : hpR 7 4 = true := by kernel_rfl
theorem g_w10 : hpW 10 = true := by kernel_rfl
theorem g_r12_0 : hpR 12 0 = true := by kernel_rfl
theorem g_x14 : hpX 14 = true := by kernel_rfl
theorem g_r15_8 : hpR 15 8 = true := by kernel_rfl
theorem g_w17 : hpW 17 = true := by kernel_rfl
theorem g_r18_7 : hpR 18 7 = true := by kernel_rfl
theorem g_r19_14 : hpR 19 14 = true := by kernel_rfl
theorem g_x21 : hpX 21 = true := by kernel_rfl
theorem g_r22_1 : hpR 22 1 = true := by kernel_rfl
theorem g_r23_4 : hpR 23 4 = true := by kernel_rfl
theorem g_r24_6 : hpR 24 6 = true := by kernel_rfl
theorem g_r25_7 : hpR 25 7 = true := by kernel_rfl
theorem g_r26_7 : hpR 26 7 = true := by kernel_rfl
theorem g_r27_6 : hpR 27 6 = true := by kernel_rfl
theorem g_r28_4 : hpR 28 4 = true := by kernel_rfl
theorem g_r29_1 : hpR 29 1 = true := by kernel_rfl
theorem g_x30 : hpX 30 = true := by kernel_rfl
theorem g_r30_25 : hpR 30 25 = true := by kernel_rfl
theorem g_e8 : hpE 8 = true := by kernel_rfl
theorem g_z17 : hpZ 17 = true := by kernel_rfl
theorem g_l27 : hpL 27 = true := by kernel_rfl

end Go.Proofs.YtooebogidjejoaaGreat

/-
  HubPairs: runs, 13.
-/
import Derived.Test.YtooebogidjejoaaGreatHpp
set_option linter.unusedVariables false
set_option linter.unusedSimpArgs false
namespace Go.Proofs.YtooebogidjejoaaGreat
open Go

theorem g_o13 : hpO 13 = true := by kernel_rfl
theorem g_s5_1 : hpS 5 1 = true := by kernel_rfl
theorem g_s9_1 : hpS 9 1 = true := by kernel_rfl
theorem g_s11_10 : hpS 11 10 = true := by kernel_rfl
theorem g_s14_2 : hpS 14 2 = true := by kernel_rfl
theorem g_s16_1 : hpS 16 1 = true := by kernel_rfl
theorem g_s17_13 : hpS 17 13 = true := by kernel_rfl
theorem g_s19_6 : hpS 19 6 = true := by kernel_rfl
theorem g_s20_15 : hpS 20 15 = true := by kernel_rfl
theorem g_s22_2 : hpS 22 2 = true := by kernel_rfl
theorem g_s23_8 : hpS 23 8 = true := by kernel_rfl
theorem g_s24_13 : hpS 24 13 = true := by kernel_rfl
theorem g_s25_17 : hpS 25 17 = true := by kernel_rfl
theorem g_s26_20 : hpS 26 20 = true := by kernel_rfl
theorem g_s27_22 : hpS 27 22 = true := by kernel_rfl
theorem g_s28_23 : hpS 28 23 = true := by kernel_rfl
theorem g_s29_23 : hpS 29 23 = true := by kernel_rfl
theorem g_s30_22 : hpS 30 22 = true := by kernel_rfl
theorem g_r7_1 : hpR 7 1 = true := by kernel_rfl
theorem g_r9_8 : hpR 9 8 = true := by kernel_rfl
theorem g_x12 : hpX 12 = true := by kernel_rfl
theorem g_r13_10 : hpR 13 10 = true := by kernel_rfl
theorem g_r15_5 : hpR 15 5 = true := by kernel_rfl
theorem g_r16_15 : hpR 16 15 = true := by kernel_rfl
theorem g_r18_4 : hpR 18 4 = true := by kernel_rfl
theorem g_r19_11 : hpR 19 11 = true := by kernel_rfl
theorem g_r20_17 : hpR 20 17 = true := by kernel_rfl
theorem g_y22 : hpY 22 = true := by kernel_rfl
theorem g_r23_1 : hpR 23 1 = true := by kernel_rfl
theorem g_r24_3 : hpR 24 3 = true := by kernel_rfl
theorem g_r25_4 : hpR 25 4 = true := by kernel_rfl
theorem g_r26_4 : hpR 26 4 = true := by kernel_rfl
theorem g_r27_3 : hpR 27 3 = true := by kernel_rfl
theorem g_r28_1 : hpR 28 1 = true := by kernel_rfl
theorem g_y29 : hpY 29 = true := by kernel_rfl
theorem g_r29_26 : hpR 29 26 = true := by kernel_rfl
theorem g_r30_22 : hpR 30 22 = true := by kernel_rfl
theorem g_e7 : hpE 7 = true := by kernel_rfl
theorem g_z16 : hpZ 16 = true := by kernel_rfl
theorem g_l26 : hpL 26 = true := by kernel_rfl

end Go.Proofs.YtooebogidjejoaaGreat

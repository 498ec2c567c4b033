/-
  HubPairs: runs, 17.
-/
import Derived.Test.YtooebogidjejoaaGreatHpp
set_option linter.unusedVariables false
set_option linter.unusedSimpArgs false
namespace Go.Proofs.YtooebogidjejoaaGreat
open Go

theorem g_o17 : hpO 17 = true := by kernel_rfl
theorem g_s6_0 : hpS 6 0 = true := by kernel_rfl
theorem g_s9_5 : hpS 9 5 = true := by kernel_rfl
theorem g_s12_3 : hpS 12 3 = true := by kernel_rfl
theorem g_s14_6 : hpS 14 6 = true := by kernel_rfl
theorem g_s16_5 : hpS 16 5 = true := by kernel_rfl
theorem g_s18_0 : hpS 18 0 = true := by kernel_rfl
theorem g_s19_10 : hpS 19 10 = true := by kernel_rfl
theorem g_s20_19 : hpS 20 19 = true := by kernel_rfl
theorem g_s22_6 : hpS 22 6 = true := by kernel_rfl
theorem g_s23_12 : hpS 23 12 = true := by kernel_rfl
theorem g_s24_17 : hpS 24 17 = true := by kernel_rfl
theorem g_s25_21 : hpS 25 21 = true := by kernel_rfl
theorem g_s26_24 : hpS 26 24 = true := by kernel_rfl
theorem g_s27_26 : hpS 27 26 = true := by kernel_rfl
theorem g_s28_27 : hpS 28 27 = true := by kernel_rfl
theorem g_s29_27 : hpS 29 27 = true := by kernel_rfl
theorem g_s30_26 : hpS 30 26 = true := by kernel_rfl
theorem g_r7_5 : hpR 7 5 = true := by kernel_rfl
theorem g_r10_0 : hpR 10 0 = true := by kernel_rfl
theorem g_r12_1 : hpR 12 1 = true := by kernel_rfl
theorem g_y14 : hpY 14 = true := by kernel_rfl
theorem g_r15_9 : hpR 15 9 = true := by kernel_rfl
theorem g_r17_0 : hpR 17 0 = true := by kernel_rfl
theorem g_r18_8 : hpR 18 8 = true := by kernel_rfl
theorem g_r19_15 : hpR 19 15 = true := by kernel_rfl
theorem g_y21 : hpY 21 = true := by kernel_rfl
theorem g_r22_2 : hpR 22 2 = true := by kernel_rfl
theorem g_r23_5 : hpR 23 5 = true := by kernel_rfl
theorem g_r24_7 : hpR 24 7 = true := by kernel_rfl
theorem g_r25_8 : hpR 25 8 = true := by kernel_rfl
theorem g_r26_8 : hpR 26 8 = true := by kernel_rfl
theorem g_r27_7 : hpR 27 7 = true := by kernel_rfl
theorem g_r28_5 : hpR 28 5 = true := by kernel_rfl
theorem g_r29_2 : hpR 29 2 = true := by kernel_rfl
theorem g_y30 : hpY 30 = true := by kernel_rfl
theorem g_r30_26 : hpR 30 26 = true := by kernel_rfl
theorem g_z8 : hpZ 8 = true := by kernel_rfl
theorem g_l18 : hpL 18 = true := by kernel_rfl
theorem g_e27 : hpE 27 = true := by kernel_rfl

end Go.Proofs.YtooebogidjejoaaGreat

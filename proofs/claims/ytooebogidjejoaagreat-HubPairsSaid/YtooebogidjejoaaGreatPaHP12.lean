/-
  HubPairs: runs, 12.
-/
import Derived.Test.YtooebogidjejoaaGreatHpp
set_option linter.unusedVariables false
set_option linter.unusedSimpArgs false
namespace Go.Proofs.YtooebogidjejoaaGreat
open Go

theorem g_o12 : hpO 12 = true := by kernel_rfl
theorem g_s5_0 : hpS 5 0 = true := by kernel_rfl
theorem g_s9_0 : hpS 9 0 = true := by kernel_rfl
theorem g_s11_9 : hpS 11 9 = true := by kernel_rfl
theorem g_s14_1 : hpS 14 1 = true := by kernel_rfl
theorem g_s16_0 : hpS 16 0 = true := by kernel_rfl
theorem g_s17_12 : hpS 17 12 = true := by kernel_rfl
theorem g_s19_5 : hpS 19 5 = true := by kernel_rfl
theorem g_s20_14 : hpS 20 14 = true := by kernel_rfl
theorem g_s22_1 : hpS 22 1 = true := by kernel_rfl
theorem g_s23_7 : hpS 23 7 = true := by kernel_rfl
theorem g_s24_12 : hpS 24 12 = true := by kernel_rfl
theorem g_s25_16 : hpS 25 16 = true := by kernel_rfl
theorem g_s26_19 : hpS 26 19 = true := by kernel_rfl
theorem g_s27_21 : hpS 27 21 = true := by kernel_rfl
theorem g_s28_22 : hpS 28 22 = true := by kernel_rfl
theorem g_s29_22 : hpS 29 22 = true := by kernel_rfl
theorem g_s30_21 : hpS 30 21 = true := by kernel_rfl
theorem g_r7_0 : hpR 7 0 = true := by kernel_rfl
theorem g_r9_7 : hpR 9 7 = true := by kernel_rfl
theorem g_r11_10 : hpR 11 10 = true := by kernel_rfl
theorem g_r13_9 : hpR 13 9 = true := by kernel_rfl
theorem g_r15_4 : hpR 15 4 = true := by kernel_rfl
theorem g_r16_14 : hpR 16 14 = true := by kernel_rfl
theorem g_r18_3 : hpR 18 3 = true := by kernel_rfl
theorem g_r19_10 : hpR 19 10 = true := by kernel_rfl
theorem g_r20_16 : hpR 20 16 = true := by kernel_rfl
theorem g_x22 : hpX 22 = true := by kernel_rfl
theorem g_r23_0 : hpR 23 0 = true := by kernel_rfl
theorem g_r24_2 : hpR 24 2 = true := by kernel_rfl
theorem g_r25_3 : hpR 25 3 = true := by kernel_rfl
theorem g_r26_3 : hpR 26 3 = true := by kernel_rfl
theorem g_r27_2 : hpR 27 2 = true := by kernel_rfl
theorem g_r28_0 : hpR 28 0 = true := by kernel_rfl
theorem g_x29 : hpX 29 = true := by kernel_rfl
theorem g_r29_25 : hpR 29 25 = true := by kernel_rfl
theorem g_r30_21 : hpR 30 21 = true := by kernel_rfl
theorem g_l7 : hpL 7 = true := by kernel_rfl
theorem g_e16 : hpE 16 = true := by kernel_rfl
theorem g_z25 : hpZ 25 = true := by kernel_rfl

end Go.Proofs.YtooebogidjejoaaGreat

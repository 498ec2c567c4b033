/-
  Stages of WorldRefuses, idle ticks: that they run so.
-/
import Derived.Test.YtnhpfkjblnclnaaGreatSgY
import Derived.Test.YtnhpfkjblnclnaaGreatPlsOk
import Derived.Test.YtnhpfkjblnclnaaGreatSsq
set_option linter.unusedVariables false
set_option linter.unusedSimpArgs false
namespace Go.Proofs.YtnhpfkjblnclnaaGreat.worldRefuses.t
open Go

set_option maxRecDepth 1000000 in
theorem y15_run : callG Tryz.prog (ev Tryz.prog plans sumsQ (nat_lit 100000) 100000) 70 y15.args y15.s0 (chkK y15.h y15.l0 y15.ls) = y15.r := by kernel_rfl
set_option maxRecDepth 1000000 in
theorem y15_b : stgB y15 = true := by kernel_rfl
theorem y15_ok : StageOk Tryz.prog plans 70 y15 := ⟨y15_b, sumsQ, _, _, sumsQ_ok, y15_run⟩
set_option maxRecDepth 1000000 in
theorem y16_run : callG Tryz.prog (ev Tryz.prog plans sumsQ (nat_lit 100000) 100000) 70 y16.args y16.s0 (chkK y16.h y16.l0 y16.ls) = y16.r := by kernel_rfl
set_option maxRecDepth 1000000 in
theorem y16_b : stgB y16 = true := by kernel_rfl
theorem y16_ok : StageOk Tryz.prog plans 70 y16 := ⟨y16_b, sumsQ, _, _, sumsQ_ok, y16_run⟩
set_option maxRecDepth 1000000 in
theorem y17_run : callG Tryz.prog (ev Tryz.prog plans sumsQ (nat_lit 100000) 100000) 70 y17.args y17.s0 (chkK y17.h y17.l0 y17.ls) = y17.r := by kernel_rfl
set_option maxRecDepth 1000000 in
theorem y17_b : stgB y17 = true := by kernel_rfl
theorem y17_ok : StageOk Tryz.prog plans 70 y17 := ⟨y17_b, sumsQ, _, _, sumsQ_ok, y17_run⟩
set_option maxRecDepth 1000000 in
theorem y18_run : callG Tryz.prog (ev Tryz.prog plans sumsQ (nat_lit 100000) 100000) 70 y18.args y18.s0 (chkK y18.h y18.l0 y18.ls) = y18.r := by kernel_rfl
set_option maxRecDepth 1000000 in
theorem y18_b : stgB y18 = true := by kernel_rfl
theorem y18_ok : StageOk Tryz.prog plans 70 y18 := ⟨y18_b, sumsQ, _, _, sumsQ_ok, y18_run⟩
set_option maxRecDepth 1000000 in
theorem y19_run : callG Tryz.prog (ev Tryz.prog plans sumsQ (nat_lit 100000) 100000) 70 y19.args y19.s0 (chkK y19.h y19.l0 y19.ls) = y19.r := by kernel_rfl
set_option maxRecDepth 1000000 in
theorem y19_b : stgB y19 = true := by kernel_rfl
theorem y19_ok : StageOk Tryz.prog plans 70 y19 := ⟨y19_b, sumsQ, _, _, sumsQ_ok, y19_run⟩
set_option maxRecDepth 1000000 in
theorem y20_run : callG Tryz.prog (ev Tryz.prog plans sumsQ (nat_lit 100000) 100000) 70 y20.args y20.s0 (chkK y20.h y20.l0 y20.ls) = y20.r := by kernel_rfl
set_option maxRecDepth 1000000 in
theorem y20_b : stgB y20 = true := by kernel_rfl
theorem y20_ok : StageOk Tryz.prog plans 70 y20 := ⟨y20_b, sumsQ, _, _, sumsQ_ok, y20_run⟩
set_option maxRecDepth 1000000 in
theorem y21_run : callG Tryz.prog (ev Tryz.prog plans sumsQ (nat_lit 100000) 100000) 70 y21.args y21.s0 (chkK y21.h y21.l0 y21.ls) = y21.r := by kernel_rfl
set_option maxRecDepth 1000000 in
theorem y21_b : stgB y21 = true := by kernel_rfl
theorem y21_ok : StageOk Tryz.prog plans 70 y21 := ⟨y21_b, sumsQ, _, _, sumsQ_ok, y21_run⟩
set_option maxRecDepth 1000000 in
theorem y22_run : callG Tryz.prog (ev Tryz.prog plans sumsQ (nat_lit 100000) 100000) 70 y22.args y22.s0 (chkK y22.h y22.l0 y22.ls) = y22.r := by kernel_rfl
set_option maxRecDepth 1000000 in
theorem y22_b : stgB y22 = true := by kernel_rfl
theorem y22_ok : StageOk Tryz.prog plans 70 y22 := ⟨y22_b, sumsQ, _, _, sumsQ_ok, y22_run⟩
set_option maxRecDepth 1000000 in
theorem y23_run : callG Tryz.prog (ev Tryz.prog plans sumsQ (nat_lit 100000) 100000) 70 y23.args y23.s0 (chkK y23.h y23.l0 y23.ls) = y23.r := by kernel_rfl
set_option maxRecDepth 1000000 in
theorem y23_b : stgB y23 = true := by kernel_rfl
theorem y23_ok : StageOk Tryz.prog plans 70 y23 := ⟨y23_b, sumsQ, _, _, sumsQ_ok, y23_run⟩
set_option maxRecDepth 1000000 in
theorem y24_run : callG Tryz.prog (ev Tryz.prog plans sumsQ (nat_lit 100000) 100000) 70 y24.args y24.s0 (chkK y24.h y24.l0 y24.ls) = y24.r := by kernel_rfl
set_option maxRecDepth 1000000 in
theorem y24_b : stgB y24 = true := by kernel_rfl
theorem y24_ok : StageOk Tryz.prog plans 70 y24 := ⟨y24_b, sumsQ, _, _, sumsQ_ok, y24_run⟩
set_option maxRecDepth 1000000 in
theorem y25_run : callG Tryz.prog (ev Tryz.prog plans sumsQ (nat_lit 100000) 100000) 70 y25.args y25.s0 (chkK y25.h y25.l0 y25.ls) = y25.r := by kernel_rfl
set_option maxRecDepth 1000000 in
theorem y25_b : stgB y25 = true := by kernel_rfl
theorem y25_ok : StageOk Tryz.prog plans 70 y25 := ⟨y25_b, sumsQ, _, _, sumsQ_ok, y25_run⟩
set_option maxRecDepth 1000000 in
theorem y26_run : callG Tryz.prog (ev Tryz.prog plans sumsQ (nat_lit 100000) 100000) 70 y26.args y26.s0 (chkK y26.h y26.l0 y26.ls) = y26.r := by kernel_rfl
set_option maxRecDepth 1000000 in
theorem y26_b : stgB y26 = true := by kernel_rfl
theorem y26_ok : StageOk Tryz.prog plans 70 y26 := ⟨y26_b, sumsQ, _, _, sumsQ_ok, y26_run⟩
set_option maxRecDepth 1000000 in
theorem y27_run : callG Tryz.prog (ev Tryz.prog plans sumsQ (nat_lit 100000) 100000) 70 y27.args y27.s0 (chkK y27.h y27.l0 y27.ls) = y27.r := by kernel_rfl
set_option maxRecDepth 1000000 in
theorem y27_b : stgB y27 = true := by kernel_rfl
theorem y27_ok : StageOk Tryz.prog plans 70 y27 := ⟨y27_b, sumsQ, _, _, sumsQ_ok, y27_run⟩
set_option maxRecDepth 1000000 in
theorem y28_run : callG Tryz.prog (ev Tryz.prog plans sumsQ (nat_lit 100000) 100000) 70 y28.args y28.s0 (chkK y28.h y28.l0 y28.ls) = y28.r := by kernel_rfl
set_option maxRecDepth 1000000 in
theorem y28_b : stgB y28 = true := by kernel_rfl
theorem y28_ok : StageOk Tryz.prog plans 70 y28 := ⟨y28_b, sumsQ, _, _, sumsQ_ok, y28_run⟩
set_option maxRecDepth 1000000 in
theorem y29_run : callG Tryz.prog (ev Tryz.prog plans sumsQ (nat_lit 100000) 100000) 70 y29.args y29.s0 (chkK y29.h y29.l0 y29.ls) = y29.r := by kernel_rfl
set_option maxRecDepth 1000000 in
theorem y29_b : stgB y29 = true := by kernel_rfl
theorem y29_ok : StageOk Tryz.prog plans 70 y29 := ⟨y29_b, sumsQ, _, _, sumsQ_ok, y29_run⟩

end Go.Proofs.YtnhpfkjblnclnaaGreat.worldRefuses.t

/-
  Stages of WorldRefuses, idle ticks: that they run so.
-/
import Derived.Test.YtnhpfkjblnclnaaGreatSgY
import Derived.Test.YtnhpfkjblnclnaaGreatPlsOk
import Derived.Test.YtnhpfkjblnclnaaGreatSsq
set_option linter.unusedVariables false
set_option linter.unusedSimpArgs false
namespace Go.Proofs.YtnhpfkjblnclnaaGreat.worldRefuses.t
open Go

set_option maxRecDepth 1000000 in
theorem y0_run : callG Tryz.prog (ev Tryz.prog plans sumsQ (nat_lit 100000) 100000) 70 y0.args y0.s0 (chkK y0.h y0.l0 y0.ls) = y0.r := by kernel_rfl
set_option maxRecDepth 1000000 in
theorem y0_b : stgB y0 = true := by kernel_rfl
theorem y0_ok : StageOk Tryz.prog plans 70 y0 := ⟨y0_b, sumsQ, _, _, sumsQ_ok, y0_run⟩
set_option maxRecDepth 1000000 in
theorem y1_run : callG Tryz.prog (ev Tryz.prog plans sumsQ (nat_lit 100000) 100000) 70 y1.args y1.s0 (chkK y1.h y1.l0 y1.ls) = y1.r := by kernel_rfl
set_option maxRecDepth 1000000 in
theorem y1_b : stgB y1 = true := by kernel_rfl
theorem y1_ok : StageOk Tryz.prog plans 70 y1 := ⟨y1_b, sumsQ, _, _, sumsQ_ok, y1_run⟩
set_option maxRecDepth 1000000 in
theorem y2_run : callG Tryz.prog (ev Tryz.prog plans sumsQ (nat_lit 100000) 100000) 70 y2.args y2.s0 (chkK y2.h y2.l0 y2.ls) = y2.r := by kernel_rfl
set_option maxRecDepth 1000000 in
theorem y2_b : stgB y2 = true := by kernel_rfl
theorem y2_ok : StageOk Tryz.prog plans 70 y2 := ⟨y2_b, sumsQ, _, _, sumsQ_ok, y2_run⟩
set_option maxRecDepth 1000000 in
theorem y3_run : callG Tryz.prog (ev Tryz.prog plans sumsQ (nat_lit 100000) 100000) 70 y3.args y3.s0 (chkK y3.h y3.l0 y3.ls) = y3.r := by kernel_rfl
set_option maxRecDepth 1000000 in
theorem y3_b : stgB y3 = true := by kernel_rfl
theorem y3_ok : StageOk Tryz.prog plans 70 y3 := ⟨y3_b, sumsQ, _, _, sumsQ_ok, y3_run⟩
set_option maxRecDepth 1000000 in
theorem y4_run : callG Tryz.prog (ev Tryz.prog plans sumsQ (nat_lit 100000) 100000) 70 y4.args y4.s0 (chkK y4.h y4.l0 y4.ls) = y4.r := by kernel_rfl
set_option maxRecDepth 1000000 in
theorem y4_b : stgB y4 = true := by kernel_rfl
theorem y4_ok : StageOk Tryz.prog plans 70 y4 := ⟨y4_b, sumsQ, _, _, sumsQ_ok, y4_run⟩
set_option maxRecDepth 1000000 in
theorem y5_run : callG Tryz.prog (ev Tryz.prog plans sumsQ (nat_lit 100000) 100000) 70 y5.args y5.s0 (chkK y5.h y5.l0 y5.ls) = y5.r := by kernel_rfl
set_option maxRecDepth 1000000 in
theorem y5_b : stgB y5 = true := by kernel_rfl
theorem y5_ok : StageOk Tryz.prog plans 70 y5 := ⟨y5_b, sumsQ, _, _, sumsQ_ok, y5_run⟩
set_option maxRecDepth 1000000 in
theorem y6_run : callG Tryz.prog (ev Tryz.prog plans sumsQ (nat_lit 100000) 100000) 70 y6.args y6.s0 (chkK y6.h y6.l0 y6.ls) = y6.r := by kernel_rfl
set_option maxRecDepth 1000000 in
theorem y6_b : stgB y6 = true := by kernel_rfl
theorem y6_ok : StageOk Tryz.prog plans 70 y6 := ⟨y6_b, sumsQ, _, _, sumsQ_ok, y6_run⟩
set_option maxRecDepth 1000000 in
theorem y7_run : callG Tryz.prog (ev Tryz.prog plans sumsQ (nat_lit 100000) 100000) 70 y7.args y7.s0 (chkK y7.h y7.l0 y7.ls) = y7.r := by kernel_rfl
set_option maxRecDepth 1000000 in
theorem y7_b : stgB y7 = true := by kernel_rfl
theorem y7_ok : StageOk Tryz.prog plans 70 y7 := ⟨y7_b, sumsQ, _, _, sumsQ_ok, y7_run⟩
set_option maxRecDepth 1000000 in
theorem y8_run : callG Tryz.prog (ev Tryz.prog plans sumsQ (nat_lit 100000) 100000) 70 y8.args y8.s0 (chkK y8.h y8.l0 y8.ls) = y8.r := by kernel_rfl
set_option maxRecDepth 1000000 in
theorem y8_b : stgB y8 = true := by kernel_rfl
theorem y8_ok : StageOk Tryz.prog plans 70 y8 := ⟨y8_b, sumsQ, _, _, sumsQ_ok, y8_run⟩
set_option maxRecDepth 1000000 in
theorem y9_run : callG Tryz.prog (ev Tryz.prog plans sumsQ (nat_lit 100000) 100000) 70 y9.args y9.s0 (chkK y9.h y9.l0 y9.ls) = y9.r := by kernel_rfl
set_option maxRecDepth 1000000 in
theorem y9_b : stgB y9 = true := by kernel_rfl
theorem y9_ok : StageOk Tryz.prog plans 70 y9 := ⟨y9_b, sumsQ, _, _, sumsQ_ok, y9_run⟩
set_option maxRecDepth 1000000 in
theorem y10_run : callG Tryz.prog (ev Tryz.prog plans sumsQ (nat_lit 100000) 100000) 70 y10.args y10.s0 (chkK y10.h y10.l0 y10.ls) = y10.r := by kernel_rfl
set_option maxRecDepth 1000000 in
theorem y10_b : stgB y10 = true := by kernel_rfl
theorem y10_ok : StageOk Tryz.prog plans 70 y10 := ⟨y10_b, sumsQ, _, _, sumsQ_ok, y10_run⟩
set_option maxRecDepth 1000000 in
theorem y11_run : callG Tryz.prog (ev Tryz.prog plans sumsQ (nat_lit 100000) 100000) 70 y11.args y11.s0 (chkK y11.h y11.l0 y11.ls) = y11.r := by kernel_rfl
set_option maxRecDepth 1000000 in
theorem y11_b : stgB y11 = true := by kernel_rfl
theorem y11_ok : StageOk Tryz.prog plans 70 y11 := ⟨y11_b, sumsQ, _, _, sumsQ_ok, y11_run⟩
set_option maxRecDepth 1000000 in
theorem y12_run : callG Tryz.prog (ev Tryz.prog plans sumsQ (nat_lit 100000) 100000) 70 y12.args y12.s0 (chkK y12.h y12.l0 y12.ls) = y12.r := by kernel_rfl
set_option maxRecDepth 1000000 in
theorem y12_b : stgB y12 = true := by kernel_rfl
theorem y12_ok : StageOk Tryz.prog plans 70 y12 := ⟨y12_b, sumsQ, _, _, sumsQ_ok, y12_run⟩
set_option maxRecDepth 1000000 in
theorem y13_run : callG Tryz.prog (ev Tryz.prog plans sumsQ (nat_lit 100000) 100000) 70 y13.args y13.s0 (chkK y13.h y13.l0 y13.ls) = y13.r := by kernel_rfl
set_option maxRecDepth 1000000 in
theorem y13_b : stgB y13 = true := by kernel_rfl
theorem y13_ok : StageOk Tryz.prog plans 70 y13 := ⟨y13_b, sumsQ, _, _, sumsQ_ok, y13_run⟩
set_option maxRecDepth 1000000 in
theorem y14_run : callG Tryz.prog (ev Tryz.prog plans sumsQ (nat_lit 100000) 100000) 70 y14.args y14.s0 (chkK y14.h y14.l0 y14.ls) = y14.r := by kernel_rfl
set_option maxRecDepth 1000000 in
theorem y14_b : stgB y14 = true := by kernel_rfl
theorem y14_ok : StageOk Tryz.prog plans 70 y14 := ⟨y14_b, sumsQ, _, _, sumsQ_ok, y14_run⟩

end Go.Proofs.YtnhpfkjblnclnaaGreat.worldRefuses.t

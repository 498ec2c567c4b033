/-
  Stages of WorldRefuses (nobody): that they run so.
-/
import Derived.Test.YtnhpfkjblnclnaaGreatSgT
import Derived.Test.YtnhpfkjblnclnaaGreatPlsOk
import Derived.Test.YtnhpfkjblnclnaaGreatSsq
set_option linter.unusedVariables false
set_option linter.unusedSimpArgs false
namespace Go.Proofs.YtnhpfkjblnclnaaGreat.worldRefuses.t
open Go

set_option maxRecDepth 1000000 in
theorem g23_run : callG Tryz.prog (ev Tryz.prog plans sumsQ (nat_lit 100000) 100000) 70 g23.args g23.s0 (chkK g23.h g23.l0 g23.ls) = g23.r := by kernel_rfl
set_option maxRecDepth 1000000 in
theorem g23_b : stgB g23 = true := by kernel_rfl
theorem g23_ok : StageOk Tryz.prog plans 70 g23 := ⟨g23_b, sumsQ, _, _, sumsQ_ok, g23_run⟩
set_option maxRecDepth 1000000 in
theorem g24_run : callG Tryz.prog (ev Tryz.prog plans sumsQ (nat_lit 100000) 100000) 70 g24.args g24.s0 (chkK g24.h g24.l0 g24.ls) = g24.r := by kernel_rfl
set_option maxRecDepth 1000000 in
theorem g24_b : stgB g24 = true := by kernel_rfl
theorem g24_ok : StageOk Tryz.prog plans 70 g24 := ⟨g24_b, sumsQ, _, _, sumsQ_ok, g24_run⟩
set_option maxRecDepth 1000000 in
theorem g25_run : callG Tryz.prog (ev Tryz.prog plans sumsQ (nat_lit 100000) 100000) 68 g25.args g25.s0 (chkK g25.h g25.l0 g25.ls) = g25.r := by kernel_rfl
set_option maxRecDepth 1000000 in
theorem g25_b : stgB g25 = true := by kernel_rfl
theorem g25_ok : StageOk Tryz.prog plans 68 g25 := ⟨g25_b, sumsQ, _, _, sumsQ_ok, g25_run⟩
set_option maxRecDepth 1000000 in
theorem g26_run : callG Tryz.prog (ev Tryz.prog plans sumsQ (nat_lit 100000) 100000) 70 g26.args g26.s0 (chkK g26.h g26.l0 g26.ls) = g26.r := by kernel_rfl
set_option maxRecDepth 1000000 in
theorem g26_b : stgB g26 = true := by kernel_rfl
theorem g26_ok : StageOk Tryz.prog plans 70 g26 := ⟨g26_b, sumsQ, _, _, sumsQ_ok, g26_run⟩
set_option maxRecDepth 1000000 in
theorem g27_run : callG Tryz.prog (ev Tryz.prog plans sumsQ (nat_lit 100000) 100000) 70 g27.args g27.s0 (chkK g27.h g27.l0 g27.ls) = g27.r := by kernel_rfl
set_option maxRecDepth 1000000 in
theorem g27_b : stgB g27 = true := by kernel_rfl
theorem g27_ok : StageOk Tryz.prog plans 70 g27 := ⟨g27_b, sumsQ, _, _, sumsQ_ok, g27_run⟩
set_option maxRecDepth 1000000 in
theorem g28_run : callG Tryz.prog (ev Tryz.prog plans sumsQ (nat_lit 100000) 100000) 68 g28.args g28.s0 (chkK g28.h g28.l0 g28.ls) = g28.r := by kernel_rfl
set_option maxRecDepth 1000000 in
theorem g28_b : stgB g28 = true := by kernel_rfl
theorem g28_ok : StageOk Tryz.prog plans 68 g28 := ⟨g28_b, sumsQ, _, _, sumsQ_ok, g28_run⟩
set_option maxRecDepth 1000000 in
theorem g29_run : callG Tryz.prog (ev Tryz.prog plans sumsQ (nat_lit 100000) 100000) 70 g29.args g29.s0 (chkK g29.h g29.l0 g29.ls) = g29.r := by kernel_rfl
set_option maxRecDepth 1000000 in
theorem g29_b : stgB g29 = true := by kernel_rfl
theorem g29_ok : StageOk Tryz.prog plans 70 g29 := ⟨g29_b, sumsQ, _, _, sumsQ_ok, g29_run⟩
set_option maxRecDepth 1000000 in
theorem g30_run : callG Tryz.prog (ev Tryz.prog plans sumsQ (nat_lit 100000) 100000) 70 g30.args g30.s0 (chkK g30.h g30.l0 g30.ls) = g30.r := by kernel_rfl
set_option maxRecDepth 1000000 in
theorem g30_b : stgB g30 = true := by kernel_rfl
theorem g30_ok : StageOk Tryz.prog plans 70 g30 := ⟨g30_b, sumsQ, _, _, sumsQ_ok, g30_run⟩
set_option maxRecDepth 1000000 in
theorem g31_run : callG Tryz.prog (ev Tryz.prog plans sumsQ (nat_lit 100000) 100000) 70 g31.args g31.s0 (chkK g31.h g31.l0 g31.ls) = g31.r := by kernel_rfl
set_option maxRecDepth 1000000 in
theorem g31_b : stgB g31 = true := by kernel_rfl
theorem g31_ok : StageOk Tryz.prog plans 70 g31 := ⟨g31_b, sumsQ, _, _, sumsQ_ok, g31_run⟩
set_option maxRecDepth 1000000 in
theorem g32_run : callG Tryz.prog (ev Tryz.prog plans sumsQ (nat_lit 100000) 100000) 70 g32.args g32.s0 (chkK g32.h g32.l0 g32.ls) = g32.r := by kernel_rfl
set_option maxRecDepth 1000000 in
theorem g32_b : stgB g32 = true := by kernel_rfl
theorem g32_ok : StageOk Tryz.prog plans 70 g32 := ⟨g32_b, sumsQ, _, _, sumsQ_ok, g32_run⟩
set_option maxRecDepth 1000000 in
theorem g33_run : callG Tryz.prog (ev Tryz.prog plans sumsQ (nat_lit 100000) 100000) 68 g33.args g33.s0 (chkK g33.h g33.l0 g33.ls) = g33.r := by kernel_rfl
set_option maxRecDepth 1000000 in
theorem g33_b : stgB g33 = true := by kernel_rfl
theorem g33_ok : StageOk Tryz.prog plans 68 g33 := ⟨g33_b, sumsQ, _, _, sumsQ_ok, g33_run⟩
set_option maxRecDepth 1000000 in
theorem g34_run : callG Tryz.prog (ev Tryz.prog plans sumsQ (nat_lit 100000) 100000) 70 g34.args g34.s0 (chkK g34.h g34.l0 g34.ls) = g34.r := by kernel_rfl
set_option maxRecDepth 1000000 in
theorem g34_b : stgB g34 = true := by kernel_rfl
theorem g34_ok : StageOk Tryz.prog plans 70 g34 := ⟨g34_b, sumsQ, _, _, sumsQ_ok, g34_run⟩
set_option maxRecDepth 1000000 in
theorem g35_run : callG Tryz.prog (ev Tryz.prog plans sumsQ (nat_lit 100000) 100000) 70 g35.args g35.s0 (chkK g35.h g35.l0 g35.ls) = g35.r := by kernel_rfl
set_option maxRecDepth 1000000 in
theorem g35_b : stgB g35 = true := by kernel_rfl
theorem g35_ok : StageOk Tryz.prog plans 70 g35 := ⟨g35_b, sumsQ, _, _, sumsQ_ok, g35_run⟩
set_option maxRecDepth 1000000 in
theorem g36_run : callG Tryz.prog (ev Tryz.prog plans sumsQ (nat_lit 100000) 100000) 68 g36.args g36.s0 (chkK g36.h g36.l0 g36.ls) = g36.r := by kernel_rfl
set_option maxRecDepth 1000000 in
theorem g36_b : stgB g36 = true := by kernel_rfl
theorem g36_ok : StageOk Tryz.prog plans 68 g36 := ⟨g36_b, sumsQ, _, _, sumsQ_ok, g36_run⟩
set_option maxRecDepth 1000000 in
theorem g37_run : callG Tryz.prog (ev Tryz.prog plans sumsQ (nat_lit 100000) 100000) 70 g37.args g37.s0 (chkK g37.h g37.l0 g37.ls) = g37.r := by kernel_rfl
set_option maxRecDepth 1000000 in
theorem g37_b : stgB g37 = true := by kernel_rfl
theorem g37_ok : StageOk Tryz.prog plans 70 g37 := ⟨g37_b, sumsQ, _, _, sumsQ_ok, g37_run⟩
set_option maxRecDepth 1000000 in
theorem g38_run : callG Tryz.prog (ev Tryz.prog plans sumsQ (nat_lit 100000) 100000) 70 g38.args g38.s0 (chkK g38.h g38.l0 g38.ls) = g38.r := by kernel_rfl
set_option maxRecDepth 1000000 in
theorem g38_b : stgB g38 = true := by kernel_rfl
theorem g38_ok : StageOk Tryz.prog plans 70 g38 := ⟨g38_b, sumsQ, _, _, sumsQ_ok, g38_run⟩
set_option maxRecDepth 1000000 in
theorem g39_run : callG Tryz.prog (ev Tryz.prog plans sumsQ (nat_lit 100000) 100000) 68 g39.args g39.s0 (chkK g39.h g39.l0 g39.ls) = g39.r := by kernel_rfl
set_option maxRecDepth 1000000 in
theorem g39_b : stgB g39 = true := by kernel_rfl
theorem g39_ok : StageOk Tryz.prog plans 68 g39 := ⟨g39_b, sumsQ, _, _, sumsQ_ok, g39_run⟩
set_option maxRecDepth 1000000 in
theorem g40_run : callG Tryz.prog (ev Tryz.prog plans sumsQ (nat_lit 100000) 100000) 70 g40.args g40.s0 (chkK g40.h g40.l0 g40.ls) = g40.r := by kernel_rfl
set_option maxRecDepth 1000000 in
theorem g40_b : stgB g40 = true := by kernel_rfl
theorem g40_ok : StageOk Tryz.prog plans 70 g40 := ⟨g40_b, sumsQ, _, _, sumsQ_ok, g40_run⟩
set_option maxRecDepth 1000000 in
theorem g41_run : callG Tryz.prog (ev Tryz.prog plans sumsQ (nat_lit 100000) 100000) 70 g41.args g41.s0 (chkK g41.h g41.l0 g41.ls) = g41.r := by kernel_rfl
set_option maxRecDepth 1000000 in
theorem g41_b : stgB g41 = true := by kernel_rfl
theorem g41_ok : StageOk Tryz.prog plans 70 g41 := ⟨g41_b, sumsQ, _, _, sumsQ_ok, g41_run⟩
set_option maxRecDepth 1000000 in
theorem g42_run : callG Tryz.prog (ev Tryz.prog plans sumsQ (nat_lit 100000) 100000) 70 g42.args g42.s0 (chkK g42.h g42.l0 g42.ls) = g42.r := by kernel_rfl
set_option maxRecDepth 1000000 in
theorem g42_b : stgB g42 = true := by kernel_rfl
theorem g42_ok : StageOk Tryz.prog plans 70 g42 := ⟨g42_b, sumsQ, _, _, sumsQ_ok, g42_run⟩
set_option maxRecDepth 1000000 in
theorem g43_run : callG Tryz.prog (ev Tryz.prog plans sumsQ (nat_lit 100000) 100000) 70 g43.args g43.s0 (chkK g43.h g43.l0 g43.ls) = g43.r := by kernel_rfl
set_option maxRecDepth 1000000 in
theorem g43_b : stgB g43 = true := by kernel_rfl
theorem g43_ok : StageOk Tryz.prog plans 70 g43 := ⟨g43_b, sumsQ, _, _, sumsQ_ok, g43_run⟩
set_option maxRecDepth 1000000 in
theorem g44_run : callG Tryz.prog (ev Tryz.prog plans sumsQ (nat_lit 100000) 100000) 68 g44.args g44.s0 (chkK g44.h g44.l0 g44.ls) = g44.r := by kernel_rfl
set_option maxRecDepth 1000000 in
theorem g44_b : stgB g44 = true := by kernel_rfl
theorem g44_ok : StageOk Tryz.prog plans 68 g44 := ⟨g44_b, sumsQ, _, _, sumsQ_ok, g44_run⟩
set_option maxRecDepth 1000000 in
theorem g45_run : callG Tryz.prog (ev Tryz.prog plans sumsQ (nat_lit 100000) 100000) 70 g45.args g45.s0 (chkK g45.h g45.l0 g45.ls) = g45.r := by kernel_rfl
set_option maxRecDepth 1000000 in
theorem g45_b : stgB g45 = true := by kernel_rfl
theorem g45_ok : StageOk Tryz.prog plans 70 g45 := ⟨g45_b, sumsQ, _, _, sumsQ_ok, g45_run⟩

end Go.Proofs.YtnhpfkjblnclnaaGreat.worldRefuses.t

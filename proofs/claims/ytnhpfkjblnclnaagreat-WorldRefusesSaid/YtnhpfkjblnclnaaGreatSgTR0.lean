/-
  Stages of WorldRefuses (nobody): that they run so.
-/
import Derived.Test.YtnhpfkjblnclnaaGreatSgT
import Derived.Test.YtnhpfkjblnclnaaGreatPlsOk
import Derived.Test.YtnhpfkjblnclnaaGreatSsq
set_option linter.unusedVariables false
set_option linter.unusedSimpArgs false
namespace Go.Proofs.YtnhpfkjblnclnaaGreat.worldRefuses.t
open Go

set_option maxRecDepth 1000000 in
theorem g0_run : callG Tryz.prog (ev Tryz.prog plans sumsQ (nat_lit 100000) 100000) 65 g0.args g0.s0 (chkK g0.h g0.l0 g0.ls) = g0.r := by kernel_rfl
set_option maxRecDepth 1000000 in
theorem g0_b : stgB g0 = true := by kernel_rfl
theorem g0_ok : StageOk Tryz.prog plans 65 g0 := ⟨g0_b, sumsQ, _, _, sumsQ_ok, g0_run⟩
set_option maxRecDepth 1000000 in
theorem g1_run : callG Tryz.prog (ev Tryz.prog plans sumsQ (nat_lit 100000) 100000) 65 g1.args g1.s0 (chkK g1.h g1.l0 g1.ls) = g1.r := by kernel_rfl
set_option maxRecDepth 1000000 in
theorem g1_b : stgB g1 = true := by kernel_rfl
theorem g1_ok : StageOk Tryz.prog plans 65 g1 := ⟨g1_b, sumsQ, _, _, sumsQ_ok, g1_run⟩
set_option maxRecDepth 1000000 in
theorem g2_run : callG Tryz.prog (ev Tryz.prog plans sumsQ (nat_lit 100000) 100000) 68 g2.args g2.s0 (chkK g2.h g2.l0 g2.ls) = g2.r := by kernel_rfl
set_option maxRecDepth 1000000 in
theorem g2_b : stgB g2 = true := by kernel_rfl
theorem g2_ok : StageOk Tryz.prog plans 68 g2 := ⟨g2_b, sumsQ, _, _, sumsQ_ok, g2_run⟩
set_option maxRecDepth 1000000 in
theorem g3_run : callG Tryz.prog (ev Tryz.prog plans sumsQ (nat_lit 100000) 100000) 70 g3.args g3.s0 (chkK g3.h g3.l0 g3.ls) = g3.r := by kernel_rfl
set_option maxRecDepth 1000000 in
theorem g3_b : stgB g3 = true := by kernel_rfl
theorem g3_ok : StageOk Tryz.prog plans 70 g3 := ⟨g3_b, sumsQ, _, _, sumsQ_ok, g3_run⟩
set_option maxRecDepth 1000000 in
theorem g4_run : callG Tryz.prog (ev Tryz.prog plans sumsQ (nat_lit 100000) 100000) 70 g4.args g4.s0 (chkK g4.h g4.l0 g4.ls) = g4.r := by kernel_rfl
set_option maxRecDepth 1000000 in
theorem g4_b : stgB g4 = true := by kernel_rfl
theorem g4_ok : StageOk Tryz.prog plans 70 g4 := ⟨g4_b, sumsQ, _, _, sumsQ_ok, g4_run⟩
set_option maxRecDepth 1000000 in
theorem g5_run : callG Tryz.prog (ev Tryz.prog plans sumsQ (nat_lit 100000) 100000) 68 g5.args g5.s0 (chkK g5.h g5.l0 g5.ls) = g5.r := by kernel_rfl
set_option maxRecDepth 1000000 in
theorem g5_b : stgB g5 = true := by kernel_rfl
theorem g5_ok : StageOk Tryz.prog plans 68 g5 := ⟨g5_b, sumsQ, _, _, sumsQ_ok, g5_run⟩
set_option maxRecDepth 1000000 in
theorem g6_run : callG Tryz.prog (ev Tryz.prog plans sumsQ (nat_lit 100000) 100000) 70 g6.args g6.s0 (chkK g6.h g6.l0 g6.ls) = g6.r := by kernel_rfl
set_option maxRecDepth 1000000 in
theorem g6_b : stgB g6 = true := by kernel_rfl
theorem g6_ok : StageOk Tryz.prog plans 70 g6 := ⟨g6_b, sumsQ, _, _, sumsQ_ok, g6_run⟩
set_option maxRecDepth 1000000 in
theorem g7_run : callG Tryz.prog (ev Tryz.prog plans sumsQ (nat_lit 100000) 100000) 70 g7.args g7.s0 (chkK g7.h g7.l0 g7.ls) = g7.r := by kernel_rfl
set_option maxRecDepth 1000000 in
theorem g7_b : stgB g7 = true := by kernel_rfl
theorem g7_ok : StageOk Tryz.prog plans 70 g7 := ⟨g7_b, sumsQ, _, _, sumsQ_ok, g7_run⟩
set_option maxRecDepth 1000000 in
theorem g8_run : callG Tryz.prog (ev Tryz.prog plans sumsQ (nat_lit 100000) 100000) 68 g8.args g8.s0 (chkK g8.h g8.l0 g8.ls) = g8.r := by kernel_rfl
set_option maxRecDepth 1000000 in
theorem g8_b : stgB g8 = true := by kernel_rfl
theorem g8_ok : StageOk Tryz.prog plans 68 g8 := ⟨g8_b, sumsQ, _, _, sumsQ_ok, g8_run⟩
set_option maxRecDepth 1000000 in
theorem g9_run : callG Tryz.prog (ev Tryz.prog plans sumsQ (nat_lit 100000) 100000) 70 g9.args g9.s0 (chkK g9.h g9.l0 g9.ls) = g9.r := by kernel_rfl
set_option maxRecDepth 1000000 in
theorem g9_b : stgB g9 = true := by kernel_rfl
theorem g9_ok : StageOk Tryz.prog plans 70 g9 := ⟨g9_b, sumsQ, _, _, sumsQ_ok, g9_run⟩
set_option maxRecDepth 1000000 in
theorem g10_run : callG Tryz.prog (ev Tryz.prog plans sumsQ (nat_lit 100000) 100000) 70 g10.args g10.s0 (chkK g10.h g10.l0 g10.ls) = g10.r := by kernel_rfl
set_option maxRecDepth 1000000 in
theorem g10_b : stgB g10 = true := by kernel_rfl
theorem g10_ok : StageOk Tryz.prog plans 70 g10 := ⟨g10_b, sumsQ, _, _, sumsQ_ok, g10_run⟩
set_option maxRecDepth 1000000 in
theorem g11_run : callG Tryz.prog (ev Tryz.prog plans sumsQ (nat_lit 100000) 100000) 68 g11.args g11.s0 (chkK g11.h g11.l0 g11.ls) = g11.r := by kernel_rfl
set_option maxRecDepth 1000000 in
theorem g11_b : stgB g11 = true := by kernel_rfl
theorem g11_ok : StageOk Tryz.prog plans 68 g11 := ⟨g11_b, sumsQ, _, _, sumsQ_ok, g11_run⟩
set_option maxRecDepth 1000000 in
theorem g12_run : callG Tryz.prog (ev Tryz.prog plans sumsQ (nat_lit 100000) 100000) 70 g12.args g12.s0 (chkK g12.h g12.l0 g12.ls) = g12.r := by kernel_rfl
set_option maxRecDepth 1000000 in
theorem g12_b : stgB g12 = true := by kernel_rfl
theorem g12_ok : StageOk Tryz.prog plans 70 g12 := ⟨g12_b, sumsQ, _, _, sumsQ_ok, g12_run⟩
set_option maxRecDepth 1000000 in
theorem g13_run : callG Tryz.prog (ev Tryz.prog plans sumsQ (nat_lit 100000) 100000) 70 g13.args g13.s0 (chkK g13.h g13.l0 g13.ls) = g13.r := by kernel_rfl
set_option maxRecDepth 1000000 in
theorem g13_b : stgB g13 = true := by kernel_rfl
theorem g13_ok : StageOk Tryz.prog plans 70 g13 := ⟨g13_b, sumsQ, _, _, sumsQ_ok, g13_run⟩
set_option maxRecDepth 1000000 in
theorem g14_run : callG Tryz.prog (ev Tryz.prog plans sumsQ (nat_lit 100000) 100000) 68 g14.args g14.s0 (chkK g14.h g14.l0 g14.ls) = g14.r := by kernel_rfl
set_option maxRecDepth 1000000 in
theorem g14_b : stgB g14 = true := by kernel_rfl
theorem g14_ok : StageOk Tryz.prog plans 68 g14 := ⟨g14_b, sumsQ, _, _, sumsQ_ok, g14_run⟩
set_option maxRecDepth 1000000 in
theorem g15_run : callG Tryz.prog (ev Tryz.prog plans sumsQ (nat_lit 100000) 100000) 70 g15.args g15.s0 (chkK g15.h g15.l0 g15.ls) = g15.r := by kernel_rfl
set_option maxRecDepth 1000000 in
theorem g15_b : stgB g15 = true := by kernel_rfl
theorem g15_ok : StageOk Tryz.prog plans 70 g15 := ⟨g15_b, sumsQ, _, _, sumsQ_ok, g15_run⟩
set_option maxRecDepth 1000000 in
theorem g16_run : callG Tryz.prog (ev Tryz.prog plans sumsQ (nat_lit 100000) 100000) 70 g16.args g16.s0 (chkK g16.h g16.l0 g16.ls) = g16.r := by kernel_rfl
set_option maxRecDepth 1000000 in
theorem g16_b : stgB g16 = true := by kernel_rfl
theorem g16_ok : StageOk Tryz.prog plans 70 g16 := ⟨g16_b, sumsQ, _, _, sumsQ_ok, g16_run⟩
set_option maxRecDepth 1000000 in
theorem g17_run : callG Tryz.prog (ev Tryz.prog plans sumsQ (nat_lit 100000) 100000) 68 g17.args g17.s0 (chkK g17.h g17.l0 g17.ls) = g17.r := by kernel_rfl
set_option maxRecDepth 1000000 in
theorem g17_b : stgB g17 = true := by kernel_rfl
theorem g17_ok : StageOk Tryz.prog plans 68 g17 := ⟨g17_b, sumsQ, _, _, sumsQ_ok, g17_run⟩
set_option maxRecDepth 1000000 in
theorem g18_run : callG Tryz.prog (ev Tryz.prog plans sumsQ (nat_lit 100000) 100000) 70 g18.args g18.s0 (chkK g18.h g18.l0 g18.ls) = g18.r := by kernel_rfl
set_option maxRecDepth 1000000 in
theorem g18_b : stgB g18 = true := by kernel_rfl
theorem g18_ok : StageOk Tryz.prog plans 70 g18 := ⟨g18_b, sumsQ, _, _, sumsQ_ok, g18_run⟩
set_option maxRecDepth 1000000 in
theorem g19_run : callG Tryz.prog (ev Tryz.prog plans sumsQ (nat_lit 100000) 100000) 70 g19.args g19.s0 (chkK g19.h g19.l0 g19.ls) = g19.r := by kernel_rfl
set_option maxRecDepth 1000000 in
theorem g19_b : stgB g19 = true := by kernel_rfl
theorem g19_ok : StageOk Tryz.prog plans 70 g19 := ⟨g19_b, sumsQ, _, _, sumsQ_ok, g19_run⟩
set_option maxRecDepth 1000000 in
theorem g20_run : callG Tryz.prog (ev Tryz.prog plans sumsQ (nat_lit 100000) 100000) 70 g20.args g20.s0 (chkK g20.h g20.l0 g20.ls) = g20.r := by kernel_rfl
set_option maxRecDepth 1000000 in
theorem g20_b : stgB g20 = true := by kernel_rfl
theorem g20_ok : StageOk Tryz.prog plans 70 g20 := ⟨g20_b, sumsQ, _, _, sumsQ_ok, g20_run⟩
set_option maxRecDepth 1000000 in
theorem g21_run : callG Tryz.prog (ev Tryz.prog plans sumsQ (nat_lit 100000) 100000) 70 g21.args g21.s0 (chkK g21.h g21.l0 g21.ls) = g21.r := by kernel_rfl
set_option maxRecDepth 1000000 in
theorem g21_b : stgB g21 = true := by kernel_rfl
theorem g21_ok : StageOk Tryz.prog plans 70 g21 := ⟨g21_b, sumsQ, _, _, sumsQ_ok, g21_run⟩
set_option maxRecDepth 1000000 in
theorem g22_run : callG Tryz.prog (ev Tryz.prog plans sumsQ (nat_lit 100000) 100000) 68 g22.args g22.s0 (chkK g22.h g22.l0 g22.ls) = g22.r := by kernel_rfl
set_option maxRecDepth 1000000 in
theorem g22_b : stgB g22 = true := by kernel_rfl
theorem g22_ok : StageOk Tryz.prog plans 68 g22 := ⟨g22_b, sumsQ, _, _, sumsQ_ok, g22_run⟩

end Go.Proofs.YtnhpfkjblnclnaaGreat.worldRefuses.t

/-
  Stages of TopLeases, the beginning: that they run so.
-/
import Derived.Test.YtnhpfkjblnclnaaGreatSgP
import Derived.Test.YtnhpfkjblnclnaaGreatPlJ
import Derived.Test.YtnhpfkjblnclnaaGreatSsq
set_option linter.unusedVariables false
set_option linter.unusedSimpArgs false
namespace Go.Proofs.YtnhpfkjblnclnaaGreat.topLeases.p
open Go

set_option maxRecDepth 1000000 in
theorem g0_run : callG Tryz.prog (ev Tryz.prog plansJ sumsQ (nat_lit 100000) 100000) 11 g0.args g0.s0 (chkK g0.h g0.l0 g0.ls) = g0.r := by kernel_rfl
set_option maxRecDepth 1000000 in
theorem g0_b : stgB g0 = true := by kernel_rfl
theorem g0_ok : StageOk Tryz.prog plansJ 11 g0 := ⟨g0_b, sumsQ, _, _, sumsQ_ok, g0_run⟩
set_option maxRecDepth 1000000 in
theorem g1_run : callG Tryz.prog (ev Tryz.prog plansJ sumsQ (nat_lit 100000) 100000) 11 g1.args g1.s0 (chkK g1.h g1.l0 g1.ls) = g1.r := by kernel_rfl
set_option maxRecDepth 1000000 in
theorem g1_b : stgB g1 = true := by kernel_rfl
theorem g1_ok : StageOk Tryz.prog plansJ 11 g1 := ⟨g1_b, sumsQ, _, _, sumsQ_ok, g1_run⟩
set_option maxRecDepth 1000000 in
theorem g2_run : callG Tryz.prog (ev Tryz.prog plansJ sumsQ (nat_lit 100000) 100000) 35 g2.args g2.s0 (chkK g2.h g2.l0 g2.ls) = g2.r := by kernel_rfl
set_option maxRecDepth 1000000 in
theorem g2_b : stgB g2 = true := by kernel_rfl
theorem g2_ok : StageOk Tryz.prog plansJ 35 g2 := ⟨g2_b, sumsQ, _, _, sumsQ_ok, g2_run⟩
set_option maxRecDepth 1000000 in
theorem g3_run : callG Tryz.prog (ev Tryz.prog plansJ sumsQ (nat_lit 100000) 100000) 14 g3.args g3.s0 (chkK g3.h g3.l0 g3.ls) = g3.r := by kernel_rfl
set_option maxRecDepth 1000000 in
theorem g3_b : stgB g3 = true := by kernel_rfl
theorem g3_ok : StageOk Tryz.prog plansJ 14 g3 := ⟨g3_b, sumsQ, _, _, sumsQ_ok, g3_run⟩
set_option maxRecDepth 1000000 in
theorem g4_run : callG Tryz.prog (ev Tryz.prog plansJ sumsQ (nat_lit 100000) 100000) 22 g4.args g4.s0 (chkK g4.h g4.l0 g4.ls) = g4.r := by kernel_rfl
set_option maxRecDepth 1000000 in
theorem g4_b : stgB g4 = true := by kernel_rfl
theorem g4_ok : StageOk Tryz.prog plansJ 22 g4 := ⟨g4_b, sumsQ, _, _, sumsQ_ok, g4_run⟩
set_option maxRecDepth 1000000 in
theorem g5_run : callG Tryz.prog (ev Tryz.prog plansJ sumsQ (nat_lit 100000) 100000) 37 g5.args g5.s0 (chkK g5.h g5.l0 g5.ls) = g5.r := by kernel_rfl
set_option maxRecDepth 1000000 in
theorem g5_b : stgB g5 = true := by kernel_rfl
theorem g5_ok : StageOk Tryz.prog plansJ 37 g5 := ⟨g5_b, sumsQ, _, _, sumsQ_ok, g5_run⟩
set_option maxRecDepth 1000000 in
theorem g6_run : callG Tryz.prog (ev Tryz.prog plansJ sumsQ (nat_lit 100000) 100000) 35 g6.args g6.s0 (chkK g6.h g6.l0 g6.ls) = g6.r := by kernel_rfl
set_option maxRecDepth 1000000 in
theorem g6_b : stgB g6 = true := by kernel_rfl
theorem g6_ok : StageOk Tryz.prog plansJ 35 g6 := ⟨g6_b, sumsQ, _, _, sumsQ_ok, g6_run⟩
set_option maxRecDepth 1000000 in
theorem g7_run : callG Tryz.prog (ev Tryz.prog plansJ sumsQ (nat_lit 100000) 100000) 14 g7.args g7.s0 (chkK g7.h g7.l0 g7.ls) = g7.r := by kernel_rfl
set_option maxRecDepth 1000000 in
theorem g7_b : stgB g7 = true := by kernel_rfl
theorem g7_ok : StageOk Tryz.prog plansJ 14 g7 := ⟨g7_b, sumsQ, _, _, sumsQ_ok, g7_run⟩
set_option maxRecDepth 1000000 in
theorem g8_run : callG Tryz.prog (ev Tryz.prog plansJ sumsQ (nat_lit 100000) 100000) 22 g8.args g8.s0 (chkK g8.h g8.l0 g8.ls) = g8.r := by kernel_rfl
set_option maxRecDepth 1000000 in
theorem g8_b : stgB g8 = true := by kernel_rfl
theorem g8_ok : StageOk Tryz.prog plansJ 22 g8 := ⟨g8_b, sumsQ, _, _, sumsQ_ok, g8_run⟩
set_option maxRecDepth 1000000 in
theorem g9_run : callG Tryz.prog (ev Tryz.prog plansJ sumsQ (nat_lit 100000) 100000) 37 g9.args g9.s0 (chkK g9.h g9.l0 g9.ls) = g9.r := by kernel_rfl
set_option maxRecDepth 1000000 in
theorem g9_b : stgB g9 = true := by kernel_rfl
theorem g9_ok : StageOk Tryz.prog plansJ 37 g9 := ⟨g9_b, sumsQ, _, _, sumsQ_ok, g9_run⟩

end Go.Proofs.YtnhpfkjblnclnaaGreat.topLeases.p

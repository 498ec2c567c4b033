/-
  Stages of HostOwn, bytes: that they run so.
-/
import Derived.Test.YtnhpfkjblnclnaaGreatSgM
import Derived.Test.YtnhpfkjblnclnaaGreatPlJ
import Derived.Test.YtnhpfkjblnclnaaGreatSsh
set_option linter.unusedVariables false
set_option linter.unusedSimpArgs false
namespace Go.Proofs.YtnhpfkjblnclnaaGreat.hostOwn.m
open Go

set_option maxRecDepth 1000000 in
theorem g0_run : callG Tryz.prog (ev Tryz.prog plansJ sumsN (nat_lit 100000) 100000) 14 g0.args g0.s0 (chkK g0.h g0.l0 g0.ls) = g0.r := by kernel_rfl
set_option maxRecDepth 1000000 in
theorem g0_b : stgB g0 = true := by kernel_rfl
theorem g0_ok : StageOk Tryz.prog plansJ 14 g0 := ⟨g0_b, sumsN, _, _, sumsN_ok, g0_run⟩
set_option maxRecDepth 1000000 in
theorem g1_run : callG Tryz.prog (ev Tryz.prog plansJ sumsN (nat_lit 100000) 100000) 14 g1.args g1.s0 (chkK g1.h g1.l0 g1.ls) = g1.r := by kernel_rfl
set_option maxRecDepth 1000000 in
theorem g1_b : stgB g1 = true := by kernel_rfl
theorem g1_ok : StageOk Tryz.prog plansJ 14 g1 := ⟨g1_b, sumsN, _, _, sumsN_ok, g1_run⟩
set_option maxRecDepth 1000000 in
theorem g2_run : callG Tryz.prog (ev Tryz.prog plansJ sumsN (nat_lit 100000) 100000) 14 g2.args g2.s0 (chkK g2.h g2.l0 g2.ls) = g2.r := by kernel_rfl
set_option maxRecDepth 1000000 in
theorem g2_b : stgB g2 = true := by kernel_rfl
theorem g2_ok : StageOk Tryz.prog plansJ 14 g2 := ⟨g2_b, sumsN, _, _, sumsN_ok, g2_run⟩
set_option maxRecDepth 1000000 in
theorem g3_run : callG Tryz.prog (ev Tryz.prog plansJ sumsN (nat_lit 100000) 100000) 14 g3.args g3.s0 (chkK g3.h g3.l0 g3.ls) = g3.r := by kernel_rfl
set_option maxRecDepth 1000000 in
theorem g3_b : stgB g3 = true := by kernel_rfl
theorem g3_ok : StageOk Tryz.prog plansJ 14 g3 := ⟨g3_b, sumsN, _, _, sumsN_ok, g3_run⟩
set_option maxRecDepth 1000000 in
theorem g4_run : callG Tryz.prog (ev Tryz.prog plansJ sumsN (nat_lit 100000) 100000) 14 g4.args g4.s0 (chkK g4.h g4.l0 g4.ls) = g4.r := by kernel_rfl
set_option maxRecDepth 1000000 in
theorem g4_b : stgB g4 = true := by kernel_rfl
theorem g4_ok : StageOk Tryz.prog plansJ 14 g4 := ⟨g4_b, sumsN, _, _, sumsN_ok, g4_run⟩
set_option maxRecDepth 1000000 in
theorem g5_run : callG Tryz.prog (ev Tryz.prog plansJ sumsN (nat_lit 100000) 100000) 14 g5.args g5.s0 (chkK g5.h g5.l0 g5.ls) = g5.r := by kernel_rfl
set_option maxRecDepth 1000000 in
theorem g5_b : stgB g5 = true := by kernel_rfl
theorem g5_ok : StageOk Tryz.prog plansJ 14 g5 := ⟨g5_b, sumsN, _, _, sumsN_ok, g5_run⟩
set_option maxRecDepth 1000000 in
theorem g6_run : callG Tryz.prog (ev Tryz.prog plansJ sumsN (nat_lit 100000) 100000) 14 g6.args g6.s0 (chkK g6.h g6.l0 g6.ls) = g6.r := by kernel_rfl
set_option maxRecDepth 1000000 in
theorem g6_b : stgB g6 = true := by kernel_rfl
theorem g6_ok : StageOk Tryz.prog plansJ 14 g6 := ⟨g6_b, sumsN, _, _, sumsN_ok, g6_run⟩
set_option maxRecDepth 1000000 in
theorem g7_run : callG Tryz.prog (ev Tryz.prog plansJ sumsN (nat_lit 100000) 100000) 14 g7.args g7.s0 (chkK g7.h g7.l0 g7.ls) = g7.r := by kernel_rfl
set_option maxRecDepth 1000000 in
theorem g7_b : stgB g7 = true := by kernel_rfl
theorem g7_ok : StageOk Tryz.prog plansJ 14 g7 := ⟨g7_b, sumsN, _, _, sumsN_ok, g7_run⟩
set_option maxRecDepth 1000000 in
theorem g8_run : callG Tryz.prog (ev Tryz.prog plansJ sumsN (nat_lit 100000) 100000) 14 g8.args g8.s0 (chkK g8.h g8.l0 g8.ls) = g8.r := by kernel_rfl
set_option maxRecDepth 1000000 in
theorem g8_b : stgB g8 = true := by kernel_rfl
theorem g8_ok : StageOk Tryz.prog plansJ 14 g8 := ⟨g8_b, sumsN, _, _, sumsN_ok, g8_run⟩
set_option maxRecDepth 1000000 in
theorem g9_run : callG Tryz.prog (ev Tryz.prog plansJ sumsN (nat_lit 100000) 100000) 14 g9.args g9.s0 (chkK g9.h g9.l0 g9.ls) = g9.r := by kernel_rfl
set_option maxRecDepth 1000000 in
theorem g9_b : stgB g9 = true := by kernel_rfl
theorem g9_ok : StageOk Tryz.prog plansJ 14 g9 := ⟨g9_b, sumsN, _, _, sumsN_ok, g9_run⟩
set_option maxRecDepth 1000000 in
theorem g10_run : callG Tryz.prog (ev Tryz.prog plansJ sumsN (nat_lit 100000) 100000) 14 g10.args g10.s0 (chkK g10.h g10.l0 g10.ls) = g10.r := by kernel_rfl
set_option maxRecDepth 1000000 in
theorem g10_b : stgB g10 = true := by kernel_rfl
theorem g10_ok : StageOk Tryz.prog plansJ 14 g10 := ⟨g10_b, sumsN, _, _, sumsN_ok, g10_run⟩
set_option maxRecDepth 1000000 in
theorem g11_run : callG Tryz.prog (ev Tryz.prog plansJ sumsN (nat_lit 100000) 100000) 14 g11.args g11.s0 (chkK g11.h g11.l0 g11.ls) = g11.r := by kernel_rfl
set_option maxRecDepth 1000000 in
theorem g11_b : stgB g11 = true := by kernel_rfl
theorem g11_ok : StageOk Tryz.prog plansJ 14 g11 := ⟨g11_b, sumsN, _, _, sumsN_ok, g11_run⟩
set_option maxRecDepth 1000000 in
theorem g12_run : callG Tryz.prog (ev Tryz.prog plansJ sumsN (nat_lit 100000) 100000) 14 g12.args g12.s0 (chkK g12.h g12.l0 g12.ls) = g12.r := by kernel_rfl
set_option maxRecDepth 1000000 in
theorem g12_b : stgB g12 = true := by kernel_rfl
theorem g12_ok : StageOk Tryz.prog plansJ 14 g12 := ⟨g12_b, sumsN, _, _, sumsN_ok, g12_run⟩
set_option maxRecDepth 1000000 in
theorem g13_run : callG Tryz.prog (ev Tryz.prog plansJ sumsN (nat_lit 100000) 100000) 14 g13.args g13.s0 (chkK g13.h g13.l0 g13.ls) = g13.r := by kernel_rfl
set_option maxRecDepth 1000000 in
theorem g13_b : stgB g13 = true := by kernel_rfl
theorem g13_ok : StageOk Tryz.prog plansJ 14 g13 := ⟨g13_b, sumsN, _, _, sumsN_ok, g13_run⟩
set_option maxRecDepth 1000000 in
theorem g14_run : callG Tryz.prog (ev Tryz.prog plansJ sumsN (nat_lit 100000) 100000) 14 g14.args g14.s0 (chkK g14.h g14.l0 g14.ls) = g14.r := by kernel_rfl
set_option maxRecDepth 1000000 in
theorem g14_b : stgB g14 = true := by kernel_rfl
theorem g14_ok : StageOk Tryz.prog plansJ 14 g14 := ⟨g14_b, sumsN, _, _, sumsN_ok, g14_run⟩

end Go.Proofs.YtnhpfkjblnclnaaGreat.hostOwn.m

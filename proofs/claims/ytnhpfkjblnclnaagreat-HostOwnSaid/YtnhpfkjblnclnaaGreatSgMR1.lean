/-
  Stages of HostOwn, bytes: that they run so.
-/
import Derived.Test.YtnhpfkjblnclnaaGreatSgM
import Derived.Test.YtnhpfkjblnclnaaGreatPlJ
import Derived.Test.YtnhpfkjblnclnaaGreatSsh
set_option linter.unusedVariables false
set_option linter.unusedSimpArgs false
namespace Go.Proofs.YtnhpfkjblnclnaaGreat.hostOwn.m
open Go

set_option maxRecDepth 1000000 in
theorem g15_run : callG Tryz.prog (ev Tryz.prog plansJ sumsN (nat_lit 100000) 100000) 14 g15.args g15.s0 (chkK g15.h g15.l0 g15.ls) = g15.r := by kernel_rfl
set_option maxRecDepth 1000000 in
theorem g15_b : stgB g15 = true := by kernel_rfl
theorem g15_ok : StageOk Tryz.prog plansJ 14 g15 := ⟨g15_b, sumsN, _, _, sumsN_ok, g15_run⟩
set_option maxRecDepth 1000000 in
theorem g16_run : callG Tryz.prog (ev Tryz.prog plansJ sumsN (nat_lit 100000) 100000) 14 g16.args g16.s0 (chkK g16.h g16.l0 g16.ls) = g16.r := by kernel_rfl
set_option maxRecDepth 1000000 in
theorem g16_b : stgB g16 = true := by kernel_rfl
theorem g16_ok : StageOk Tryz.prog plansJ 14 g16 := ⟨g16_b, sumsN, _, _, sumsN_ok, g16_run⟩
set_option maxRecDepth 1000000 in
theorem g17_run : callG Tryz.prog (ev Tryz.prog plansJ sumsN (nat_lit 100000) 100000) 14 g17.args g17.s0 (chkK g17.h g17.l0 g17.ls) = g17.r := by kernel_rfl
set_option maxRecDepth 1000000 in
theorem g17_b : stgB g17 = true := by kernel_rfl
theorem g17_ok : StageOk Tryz.prog plansJ 14 g17 := ⟨g17_b, sumsN, _, _, sumsN_ok, g17_run⟩
set_option maxRecDepth 1000000 in
theorem g18_run : callG Tryz.prog (ev Tryz.prog plansJ sumsN (nat_lit 100000) 100000) 14 g18.args g18.s0 (chkK g18.h g18.l0 g18.ls) = g18.r := by kernel_rfl
set_option maxRecDepth 1000000 in
theorem g18_b : stgB g18 = true := by kernel_rfl
theorem g18_ok : StageOk Tryz.prog plansJ 14 g18 := ⟨g18_b, sumsN, _, _, sumsN_ok, g18_run⟩
set_option maxRecDepth 1000000 in
theorem g19_run : callG Tryz.prog (ev Tryz.prog plansJ sumsN (nat_lit 100000) 100000) 14 g19.args g19.s0 (chkK g19.h g19.l0 g19.ls) = g19.r := by kernel_rfl
set_option maxRecDepth 1000000 in
theorem g19_b : stgB g19 = true := by kernel_rfl
theorem g19_ok : StageOk Tryz.prog plansJ 14 g19 := ⟨g19_b, sumsN, _, _, sumsN_ok, g19_run⟩
set_option maxRecDepth 1000000 in
theorem g20_run : callG Tryz.prog (ev Tryz.prog plansJ sumsN (nat_lit 100000) 100000) 14 g20.args g20.s0 (chkK g20.h g20.l0 g20.ls) = g20.r := by kernel_rfl
set_option maxRecDepth 1000000 in
theorem g20_b : stgB g20 = true := by kernel_rfl
theorem g20_ok : StageOk Tryz.prog plansJ 14 g20 := ⟨g20_b, sumsN, _, _, sumsN_ok, g20_run⟩
set_option maxRecDepth 1000000 in
theorem g21_run : callG Tryz.prog (ev Tryz.prog plansJ sumsN (nat_lit 100000) 100000) 14 g21.args g21.s0 (chkK g21.h g21.l0 g21.ls) = g21.r := by kernel_rfl
set_option maxRecDepth 1000000 in
theorem g21_b : stgB g21 = true := by kernel_rfl
theorem g21_ok : StageOk Tryz.prog plansJ 14 g21 := ⟨g21_b, sumsN, _, _, sumsN_ok, g21_run⟩
set_option maxRecDepth 1000000 in
theorem g22_run : callG Tryz.prog (ev Tryz.prog plansJ sumsN (nat_lit 100000) 100000) 14 g22.args g22.s0 (chkK g22.h g22.l0 g22.ls) = g22.r := by kernel_rfl
set_option maxRecDepth 1000000 in
theorem g22_b : stgB g22 = true := by kernel_rfl
theorem g22_ok : StageOk Tryz.prog plansJ 14 g22 := ⟨g22_b, sumsN, _, _, sumsN_ok, g22_run⟩
set_option maxRecDepth 1000000 in
theorem g23_run : callG Tryz.prog (ev Tryz.prog plansJ sumsN (nat_lit 100000) 100000) 14 g23.args g23.s0 (chkK g23.h g23.l0 g23.ls) = g23.r := by kernel_rfl
set_option maxRecDepth 1000000 in
theorem g23_b : stgB g23 = true := by kernel_rfl
theorem g23_ok : StageOk Tryz.prog plansJ 14 g23 := ⟨g23_b, sumsN, _, _, sumsN_ok, g23_run⟩
set_option maxRecDepth 1000000 in
theorem g24_run : callG Tryz.prog (ev Tryz.prog plansJ sumsN (nat_lit 100000) 100000) 14 g24.args g24.s0 (chkK g24.h g24.l0 g24.ls) = g24.r := by kernel_rfl
set_option maxRecDepth 1000000 in
theorem g24_b : stgB g24 = true := by kernel_rfl
theorem g24_ok : StageOk Tryz.prog plansJ 14 g24 := ⟨g24_b, sumsN, _, _, sumsN_ok, g24_run⟩
set_option maxRecDepth 1000000 in
theorem g25_run : callG Tryz.prog (ev Tryz.prog plansJ sumsN (nat_lit 100000) 100000) 14 g25.args g25.s0 (chkK g25.h g25.l0 g25.ls) = g25.r := by kernel_rfl
set_option maxRecDepth 1000000 in
theorem g25_b : stgB g25 = true := by kernel_rfl
theorem g25_ok : StageOk Tryz.prog plansJ 14 g25 := ⟨g25_b, sumsN, _, _, sumsN_ok, g25_run⟩
set_option maxRecDepth 1000000 in
theorem g26_run : callG Tryz.prog (ev Tryz.prog plansJ sumsN (nat_lit 100000) 100000) 14 g26.args g26.s0 (chkK g26.h g26.l0 g26.ls) = g26.r := by kernel_rfl
set_option maxRecDepth 1000000 in
theorem g26_b : stgB g26 = true := by kernel_rfl
theorem g26_ok : StageOk Tryz.prog plansJ 14 g26 := ⟨g26_b, sumsN, _, _, sumsN_ok, g26_run⟩
set_option maxRecDepth 1000000 in
theorem g27_run : callG Tryz.prog (ev Tryz.prog plansJ sumsN (nat_lit 100000) 100000) 14 g27.args g27.s0 (chkK g27.h g27.l0 g27.ls) = g27.r := by kernel_rfl
set_option maxRecDepth 1000000 in
theorem g27_b : stgB g27 = true := by kernel_rfl
theorem g27_ok : StageOk Tryz.prog plansJ 14 g27 := ⟨g27_b, sumsN, _, _, sumsN_ok, g27_run⟩
set_option maxRecDepth 1000000 in
theorem g28_run : callG Tryz.prog (ev Tryz.prog plansJ sumsN (nat_lit 100000) 100000) 14 g28.args g28.s0 (chkK g28.h g28.l0 g28.ls) = g28.r := by kernel_rfl
set_option maxRecDepth 1000000 in
theorem g28_b : stgB g28 = true := by kernel_rfl
theorem g28_ok : StageOk Tryz.prog plansJ 14 g28 := ⟨g28_b, sumsN, _, _, sumsN_ok, g28_run⟩
set_option maxRecDepth 1000000 in
theorem g29_run : callG Tryz.prog (ev Tryz.prog plansJ sumsN (nat_lit 100000) 100000) 14 g29.args g29.s0 (chkK g29.h g29.l0 g29.ls) = g29.r := by kernel_rfl
set_option maxRecDepth 1000000 in
theorem g29_b : stgB g29 = true := by kernel_rfl
theorem g29_ok : StageOk Tryz.prog plansJ 14 g29 := ⟨g29_b, sumsN, _, _, sumsN_ok, g29_run⟩

end Go.Proofs.YtnhpfkjblnclnaaGreat.hostOwn.m

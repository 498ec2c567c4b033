/-
  Stages of TopLeases, the beginning: that they run so.
-/
import Derived.Test.YtnhpfkjblnclnaaGreatSgP
import Derived.Test.YtnhpfkjblnclnaaGreatPlJ
import Derived.Test.YtnhpfkjblnclnaaGreatSsq
set_option linter.unusedVariables false
set_option linter.unusedSimpArgs false
namespace Go.Proofs.YtnhpfkjblnclnaaGreat.topLeases.p
open Go

set_option maxRecDepth 1000000 in
theorem g10_run : callG Tryz.prog (ev Tryz.prog plansJ sumsQ (nat_lit 100000) 100000) 38 g10.args g10.s0 (chkK g10.h g10.l0 g10.ls) = g10.r := by kernel_rfl
set_option maxRecDepth 1000000 in
theorem g10_b : stgB g10 = true := by kernel_rfl
theorem g10_ok : StageOk Tryz.prog plansJ 38 g10 := ⟨g10_b, sumsQ, _, _, sumsQ_ok, g10_run⟩
set_option maxRecDepth 1000000 in
theorem g11_run : callG Tryz.prog (ev Tryz.prog plansJ sumsQ (nat_lit 100000) 100000) 35 g11.args g11.s0 (chkK g11.h g11.l0 g11.ls) = g11.r := by kernel_rfl
set_option maxRecDepth 1000000 in
theorem g11_b : stgB g11 = true := by kernel_rfl
theorem g11_ok : StageOk Tryz.prog plansJ 35 g11 := ⟨g11_b, sumsQ, _, _, sumsQ_ok, g11_run⟩
set_option maxRecDepth 1000000 in
theorem g12_run : callG Tryz.prog (ev Tryz.prog plansJ sumsQ (nat_lit 100000) 100000) 14 g12.args g12.s0 (chkK g12.h g12.l0 g12.ls) = g12.r := by kernel_rfl
set_option maxRecDepth 1000000 in
theorem g12_b : stgB g12 = true := by kernel_rfl
theorem g12_ok : StageOk Tryz.prog plansJ 14 g12 := ⟨g12_b, sumsQ, _, _, sumsQ_ok, g12_run⟩
set_option maxRecDepth 1000000 in
theorem g13_run : callG Tryz.prog (ev Tryz.prog plansJ sumsQ (nat_lit 100000) 100000) 22 g13.args g13.s0 (chkK g13.h g13.l0 g13.ls) = g13.r := by kernel_rfl
set_option maxRecDepth 1000000 in
theorem g13_b : stgB g13 = true := by kernel_rfl
theorem g13_ok : StageOk Tryz.prog plansJ 22 g13 := ⟨g13_b, sumsQ, _, _, sumsQ_ok, g13_run⟩
set_option maxRecDepth 1000000 in
theorem g14_run : callG Tryz.prog (ev Tryz.prog plansJ sumsQ (nat_lit 100000) 100000) 37 g14.args g14.s0 (chkK g14.h g14.l0 g14.ls) = g14.r := by kernel_rfl
set_option maxRecDepth 1000000 in
theorem g14_b : stgB g14 = true := by kernel_rfl
theorem g14_ok : StageOk Tryz.prog plansJ 37 g14 := ⟨g14_b, sumsQ, _, _, sumsQ_ok, g14_run⟩
set_option maxRecDepth 1000000 in
theorem g15_run : callG Tryz.prog (ev Tryz.prog plansJ sumsQ (nat_lit 100000) 100000) 35 g15.args g15.s0 (chkK g15.h g15.l0 g15.ls) = g15.r := by kernel_rfl
set_option maxRecDepth 1000000 in
theorem g15_b : stgB g15 = true := by kernel_rfl
theorem g15_ok : StageOk Tryz.prog plansJ 35 g15 := ⟨g15_b, sumsQ, _, _, sumsQ_ok, g15_run⟩
set_option maxRecDepth 1000000 in
theorem g16_run : callG Tryz.prog (ev Tryz.prog plansJ sumsQ (nat_lit 100000) 100000) 14 g16.args g16.s0 (chkK g16.h g16.l0 g16.ls) = g16.r := by kernel_rfl
set_option maxRecDepth 1000000 in
theorem g16_b : stgB g16 = true := by kernel_rfl
theorem g16_ok : StageOk Tryz.prog plansJ 14 g16 := ⟨g16_b, sumsQ, _, _, sumsQ_ok, g16_run⟩
set_option maxRecDepth 1000000 in
theorem g17_run : callG Tryz.prog (ev Tryz.prog plansJ sumsQ (nat_lit 100000) 100000) 22 g17.args g17.s0 (chkK g17.h g17.l0 g17.ls) = g17.r := by kernel_rfl
set_option maxRecDepth 1000000 in
theorem g17_b : stgB g17 = true := by kernel_rfl
theorem g17_ok : StageOk Tryz.prog plansJ 22 g17 := ⟨g17_b, sumsQ, _, _, sumsQ_ok, g17_run⟩
set_option maxRecDepth 1000000 in
theorem g18_run : callG Tryz.prog (ev Tryz.prog plansJ sumsQ (nat_lit 100000) 100000) 37 g18.args g18.s0 (chkK g18.h g18.l0 g18.ls) = g18.r := by kernel_rfl
set_option maxRecDepth 1000000 in
theorem g18_b : stgB g18 = true := by kernel_rfl
theorem g18_ok : StageOk Tryz.prog plansJ 37 g18 := ⟨g18_b, sumsQ, _, _, sumsQ_ok, g18_run⟩
set_option maxRecDepth 1000000 in
theorem g19_run : callG Tryz.prog (ev Tryz.prog plansJ sumsQ (nat_lit 100000) 100000) 38 g19.args g19.s0 (chkK g19.h g19.l0 g19.ls) = g19.r := by kernel_rfl
set_option maxRecDepth 1000000 in
theorem g19_b : stgB g19 = true := by kernel_rfl
theorem g19_ok : StageOk Tryz.prog plansJ 38 g19 := ⟨g19_b, sumsQ, _, _, sumsQ_ok, g19_run⟩

end Go.Proofs.YtnhpfkjblnclnaaGreat.topLeases.p

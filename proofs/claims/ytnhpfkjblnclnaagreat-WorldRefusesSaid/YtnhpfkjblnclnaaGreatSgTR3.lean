/-
  Stages of WorldRefuses (nobody): that they run so.
-/
import Derived.Test.YtnhpfkjblnclnaaGreatSgT
import Derived.Test.YtnhpfkjblnclnaaGreatPlsOk
import Derived.Test.YtnhpfkjblnclnaaGreatSsq
set_option linter.unusedVariables false
set_option linter.unusedSimpArgs false
namespace Go.Proofs.YtnhpfkjblnclnaaGreat.worldRefuses.t
open Go

set_option maxRecDepth 1000000 in
theorem g69_run : callG Tryz.prog (ev Tryz.prog plans sumsQ (nat_lit 100000) 100000) 68 g69.args g69.s0 (chkK g69.h g69.l0 g69.ls) = g69.r := by kernel_rfl
set_option maxRecDepth 1000000 in
theorem g69_b : stgB g69 = true := by kernel_rfl
theorem g69_ok : StageOk Tryz.prog plans 68 g69 := ⟨g69_b, sumsQ, _, _, sumsQ_ok, g69_run⟩
set_option maxRecDepth 1000000 in
theorem g70_run : callG Tryz.prog (ev Tryz.prog plans sumsQ (nat_lit 100000) 100000) 70 g70.args g70.s0 (chkK g70.h g70.l0 g70.ls) = g70.r := by kernel_rfl
set_option maxRecDepth 1000000 in
theorem g70_b : stgB g70 = true := by kernel_rfl
theorem g70_ok : StageOk Tryz.prog plans 70 g70 := ⟨g70_b, sumsQ, _, _, sumsQ_ok, g70_run⟩
set_option maxRecDepth 1000000 in
theorem g71_run : callG Tryz.prog (ev Tryz.prog plans sumsQ (nat_lit 100000) 100000) 70 g71.args g71.s0 (chkK g71.h g71.l0 g71.ls) = g71.r := by kernel_rfl
set_option maxRecDepth 1000000 in
theorem g71_b : stgB g71 = true := by kernel_rfl
theorem g71_ok : StageOk Tryz.prog plans 70 g71 := ⟨g71_b, sumsQ, _, _, sumsQ_ok, g71_run⟩
set_option maxRecDepth 1000000 in
theorem g72_run : callG Tryz.prog (ev Tryz.prog plans sumsQ (nat_lit 100000) 100000) 68 g72.args g72.s0 (chkK g72.h g72.l0 g72.ls) = g72.r := by kernel_rfl
set_option maxRecDepth 1000000 in
theorem g72_b : stgB g72 = true := by kernel_rfl
theorem g72_ok : StageOk Tryz.prog plans 68 g72 := ⟨g72_b, sumsQ, _, _, sumsQ_ok, g72_run⟩
set_option maxRecDepth 1000000 in
theorem g73_run : callG Tryz.prog (ev Tryz.prog plans sumsQ (nat_lit 100000) 100000) 70 g73.args g73.s0 (chkK g73.h g73.l0 g73.ls) = g73.r := by kernel_rfl
set_option maxRecDepth 1000000 in
theorem g73_b : stgB g73 = true := by kernel_rfl
theorem g73_ok : StageOk Tryz.prog plans 70 g73 := ⟨g73_b, sumsQ, _, _, sumsQ_ok, g73_run⟩
set_option maxRecDepth 1000000 in
theorem g74_run : callG Tryz.prog (ev Tryz.prog plans sumsQ (nat_lit 100000) 100000) 70 g74.args g74.s0 (chkK g74.h g74.l0 g74.ls) = g74.r := by kernel_rfl
set_option maxRecDepth 1000000 in
theorem g74_b : stgB g74 = true := by kernel_rfl
theorem g74_ok : StageOk Tryz.prog plans 70 g74 := ⟨g74_b, sumsQ, _, _, sumsQ_ok, g74_run⟩
set_option maxRecDepth 1000000 in
theorem g75_run : callG Tryz.prog (ev Tryz.prog plans sumsQ (nat_lit 100000) 100000) 70 g75.args g75.s0 (chkK g75.h g75.l0 g75.ls) = g75.r := by kernel_rfl
set_option maxRecDepth 1000000 in
theorem g75_b : stgB g75 = true := by kernel_rfl
theorem g75_ok : StageOk Tryz.prog plans 70 g75 := ⟨g75_b, sumsQ, _, _, sumsQ_ok, g75_run⟩
set_option maxRecDepth 1000000 in
theorem g76_run : callG Tryz.prog (ev Tryz.prog plans sumsQ (nat_lit 100000) 100000) 70 g76.args g76.s0 (chkK g76.h g76.l0 g76.ls) = g76.r := by kernel_rfl
set_option maxRecDepth 1000000 in
theorem g76_b : stgB g76 = true := by kernel_rfl
theorem g76_ok : StageOk Tryz.prog plans 70 g76 := ⟨g76_b, sumsQ, _, _, sumsQ_ok, g76_run⟩
set_option maxRecDepth 1000000 in
theorem g77_run : callG Tryz.prog (ev Tryz.prog plans sumsQ (nat_lit 100000) 100000) 68 g77.args g77.s0 (chkK g77.h g77.l0 g77.ls) = g77.r := by kernel_rfl
set_option maxRecDepth 1000000 in
theorem g77_b : stgB g77 = true := by kernel_rfl
theorem g77_ok : StageOk Tryz.prog plans 68 g77 := ⟨g77_b, sumsQ, _, _, sumsQ_ok, g77_run⟩
set_option maxRecDepth 1000000 in
theorem g78_run : callG Tryz.prog (ev Tryz.prog plans sumsQ (nat_lit 100000) 100000) 70 g78.args g78.s0 (chkK g78.h g78.l0 g78.ls) = g78.r := by kernel_rfl
set_option maxRecDepth 1000000 in
theorem g78_b : stgB g78 = true := by kernel_rfl
theorem g78_ok : StageOk Tryz.prog plans 70 g78 := ⟨g78_b, sumsQ, _, _, sumsQ_ok, g78_run⟩
set_option maxRecDepth 1000000 in
theorem g79_run : callG Tryz.prog (ev Tryz.prog plans sumsQ (nat_lit 100000) 100000) 70 g79.args g79.s0 (chkK g79.h g79.l0 g79.ls) = g79.r := by kernel_rfl
set_option maxRecDepth 1000000 in
theorem g79_b : stgB g79 = true := by kernel_rfl
theorem g79_ok : StageOk Tryz.prog plans 70 g79 := ⟨g79_b, sumsQ, _, _, sumsQ_ok, g79_run⟩
set_option maxRecDepth 1000000 in
theorem g80_run : callG Tryz.prog (ev Tryz.prog plans sumsQ (nat_lit 100000) 100000) 68 g80.args g80.s0 (chkK g80.h g80.l0 g80.ls) = g80.r := by kernel_rfl
set_option maxRecDepth 1000000 in
theorem g80_b : stgB g80 = true := by kernel_rfl
theorem g80_ok : StageOk Tryz.prog plans 68 g80 := ⟨g80_b, sumsQ, _, _, sumsQ_ok, g80_run⟩
set_option maxRecDepth 1000000 in
theorem g81_run : callG Tryz.prog (ev Tryz.prog plans sumsQ (nat_lit 100000) 100000) 70 g81.args g81.s0 (chkK g81.h g81.l0 g81.ls) = g81.r := by kernel_rfl
set_option maxRecDepth 1000000 in
theorem g81_b : stgB g81 = true := by kernel_rfl
theorem g81_ok : StageOk Tryz.prog plans 70 g81 := ⟨g81_b, sumsQ, _, _, sumsQ_ok, g81_run⟩
set_option maxRecDepth 1000000 in
theorem g82_run : callG Tryz.prog (ev Tryz.prog plans sumsQ (nat_lit 100000) 100000) 70 g82.args g82.s0 (chkK g82.h g82.l0 g82.ls) = g82.r := by kernel_rfl
set_option maxRecDepth 1000000 in
theorem g82_b : stgB g82 = true := by kernel_rfl
theorem g82_ok : StageOk Tryz.prog plans 70 g82 := ⟨g82_b, sumsQ, _, _, sumsQ_ok, g82_run⟩
set_option maxRecDepth 1000000 in
theorem g83_run : callG Tryz.prog (ev Tryz.prog plans sumsQ (nat_lit 100000) 100000) 68 g83.args g83.s0 (chkK g83.h g83.l0 g83.ls) = g83.r := by kernel_rfl
set_option maxRecDepth 1000000 in
theorem g83_b : stgB g83 = true := by kernel_rfl
theorem g83_ok : StageOk Tryz.prog plans 68 g83 := ⟨g83_b, sumsQ, _, _, sumsQ_ok, g83_run⟩
set_option maxRecDepth 1000000 in
theorem g84_run : callG Tryz.prog (ev Tryz.prog plans sumsQ (nat_lit 100000) 100000) 70 g84.args g84.s0 (chkK g84.h g84.l0 g84.ls) = g84.r := by kernel_rfl
set_option maxRecDepth 1000000 in
theorem g84_b : stgB g84 = true := by kernel_rfl
theorem g84_ok : StageOk Tryz.prog plans 70 g84 := ⟨g84_b, sumsQ, _, _, sumsQ_ok, g84_run⟩
set_option maxRecDepth 1000000 in
theorem g85_run : callG Tryz.prog (ev Tryz.prog plans sumsQ (nat_lit 100000) 100000) 70 g85.args g85.s0 (chkK g85.h g85.l0 g85.ls) = g85.r := by kernel_rfl
set_option maxRecDepth 1000000 in
theorem g85_b : stgB g85 = true := by kernel_rfl
theorem g85_ok : StageOk Tryz.prog plans 70 g85 := ⟨g85_b, sumsQ, _, _, sumsQ_ok, g85_run⟩
set_option maxRecDepth 1000000 in
theorem g86_run : callG Tryz.prog (ev Tryz.prog plans sumsQ (nat_lit 100000) 100000) 70 g86.args g86.s0 (chkK g86.h g86.l0 g86.ls) = g86.r := by kernel_rfl
set_option maxRecDepth 1000000 in
theorem g86_b : stgB g86 = true := by kernel_rfl
theorem g86_ok : StageOk Tryz.prog plans 70 g86 := ⟨g86_b, sumsQ, _, _, sumsQ_ok, g86_run⟩
set_option maxRecDepth 1000000 in
theorem g87_run : callG Tryz.prog (ev Tryz.prog plans sumsQ (nat_lit 100000) 100000) 70 g87.args g87.s0 (chkK g87.h g87.l0 g87.ls) = g87.r := by kernel_rfl
set_option maxRecDepth 1000000 in
theorem g87_b : stgB g87 = true := by kernel_rfl
theorem g87_ok : StageOk Tryz.prog plans 70 g87 := ⟨g87_b, sumsQ, _, _, sumsQ_ok, g87_run⟩
set_option maxRecDepth 1000000 in
theorem g88_run : callG Tryz.prog (ev Tryz.prog plans sumsQ (nat_lit 100000) 100000) 68 g88.args g88.s0 (chkK g88.h g88.l0 g88.ls) = g88.r := by kernel_rfl
set_option maxRecDepth 1000000 in
theorem g88_b : stgB g88 = true := by kernel_rfl
theorem g88_ok : StageOk Tryz.prog plans 68 g88 := ⟨g88_b, sumsQ, _, _, sumsQ_ok, g88_run⟩
set_option maxRecDepth 1000000 in
theorem g89_run : callG Tryz.prog (ev Tryz.prog plans sumsQ (nat_lit 100000) 100000) 70 g89.args g89.s0 (chkK g89.h g89.l0 g89.ls) = g89.r := by kernel_rfl
set_option maxRecDepth 1000000 in
theorem g89_b : stgB g89 = true := by kernel_rfl
theorem g89_ok : StageOk Tryz.prog plans 70 g89 := ⟨g89_b, sumsQ, _, _, sumsQ_ok, g89_run⟩

end Go.Proofs.YtnhpfkjblnclnaaGreat.worldRefuses.t

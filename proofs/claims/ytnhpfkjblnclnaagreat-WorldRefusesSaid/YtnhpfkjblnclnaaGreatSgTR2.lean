/-
  Stages of WorldRefuses (nobody): that they run so.
-/
import Derived.Test.YtnhpfkjblnclnaaGreatSgT
import Derived.Test.YtnhpfkjblnclnaaGreatPlsOk
import Derived.Test.YtnhpfkjblnclnaaGreatSsq
set_option linter.unusedVariables false
set_option linter.unusedSimpArgs false
namespace Go.Proofs.YtnhpfkjblnclnaaGreat.worldRefuses.t
open Go

set_option maxRecDepth 1000000 in
theorem g46_run : callG Tryz.prog (ev Tryz.prog plans sumsQ (nat_lit 100000) 100000) 70 g46.args g46.s0 (chkK g46.h g46.l0 g46.ls) = g46.r := by kernel_rfl
set_option maxRecDepth 1000000 in
theorem g46_b : stgB g46 = true := by kernel_rfl
theorem g46_ok : StageOk Tryz.prog plans 70 g46 := ⟨g46_b, sumsQ, _, _, sumsQ_ok, g46_run⟩
set_option maxRecDepth 1000000 in
theorem g47_run : callG Tryz.prog (ev Tryz.prog plans sumsQ (nat_lit 100000) 100000) 68 g47.args g47.s0 (chkK g47.h g47.l0 g47.ls) = g47.r := by kernel_rfl
set_option maxRecDepth 1000000 in
theorem g47_b : stgB g47 = true := by kernel_rfl
theorem g47_ok : StageOk Tryz.prog plans 68 g47 := ⟨g47_b, sumsQ, _, _, sumsQ_ok, g47_run⟩
set_option maxRecDepth 1000000 in
theorem g48_run : callG Tryz.prog (ev Tryz.prog plans sumsQ (nat_lit 100000) 100000) 70 g48.args g48.s0 (chkK g48.h g48.l0 g48.ls) = g48.r := by kernel_rfl
set_option maxRecDepth 1000000 in
theorem g48_b : stgB g48 = true := by kernel_rfl
theorem g48_ok : StageOk Tryz.prog plans 70 g48 := ⟨g48_b, sumsQ, _, _, sumsQ_ok, g48_run⟩
set_option maxRecDepth 1000000 in
theorem g49_run : callG Tryz.prog (ev Tryz.prog plans sumsQ (nat_lit 100000) 100000) 70 g49.args g49.s0 (chkK g49.h g49.l0 g49.ls) = g49.r := by kernel_rfl
set_option maxRecDepth 1000000 in
theorem g49_b : stgB g49 = true := by kernel_rfl
theorem g49_ok : StageOk Tryz.prog plans 70 g49 := ⟨g49_b, sumsQ, _, _, sumsQ_ok, g49_run⟩
set_option maxRecDepth 1000000 in
theorem g50_run : callG Tryz.prog (ev Tryz.prog plans sumsQ (nat_lit 100000) 100000) 68 g50.args g50.s0 (chkK g50.h g50.l0 g50.ls) = g50.r := by kernel_rfl
set_option maxRecDepth 1000000 in
theorem g50_b : stgB g50 = true := by kernel_rfl
theorem g50_ok : StageOk Tryz.prog plans 68 g50 := ⟨g50_b, sumsQ, _, _, sumsQ_ok, g50_run⟩
set_option maxRecDepth 1000000 in
theorem g51_run : callG Tryz.prog (ev Tryz.prog plans sumsQ (nat_lit 100000) 100000) 70 g51.args g51.s0 (chkK g51.h g51.l0 g51.ls) = g51.r := by kernel_rfl
set_option maxRecDepth 1000000 in
theorem g51_b : stgB g51 = true := by kernel_rfl
theorem g51_ok : StageOk Tryz.prog plans 70 g51 := ⟨g51_b, sumsQ, _, _, sumsQ_ok, g51_run⟩
set_option maxRecDepth 1000000 in
theorem g52_run : callG Tryz.prog (ev Tryz.prog plans sumsQ (nat_lit 100000) 100000) 70 g52.args g52.s0 (chkK g52.h g52.l0 g52.ls) = g52.r := by kernel_rfl
set_option maxRecDepth 1000000 in
theorem g52_b : stgB g52 = true := by kernel_rfl
theorem g52_ok : StageOk Tryz.prog plans 70 g52 := ⟨g52_b, sumsQ, _, _, sumsQ_ok, g52_run⟩
set_option maxRecDepth 1000000 in
theorem g53_run : callG Tryz.prog (ev Tryz.prog plans sumsQ (nat_lit 100000) 100000) 70 g53.args g53.s0 (chkK g53.h g53.l0 g53.ls) = g53.r := by kernel_rfl
set_option maxRecDepth 1000000 in
theorem g53_b : stgB g53 = true := by kernel_rfl
theorem g53_ok : StageOk Tryz.prog plans 70 g53 := ⟨g53_b, sumsQ, _, _, sumsQ_ok, g53_run⟩
set_option maxRecDepth 1000000 in
theorem g54_run : callG Tryz.prog (ev Tryz.prog plans sumsQ (nat_lit 100000) 100000) 70 g54.args g54.s0 (chkK g54.h g54.l0 g54.ls) = g54.r := by kernel_rfl
set_option maxRecDepth 1000000 in
theorem g54_b : stgB g54 = true := by kernel_rfl
theorem g54_ok : StageOk Tryz.prog plans 70 g54 := ⟨g54_b, sumsQ, _, _, sumsQ_ok, g54_run⟩
set_option maxRecDepth 1000000 in
theorem g55_run : callG Tryz.prog (ev Tryz.prog plans sumsQ (nat_lit 100000) 100000) 68 g55.args g55.s0 (chkK g55.h g55.l0 g55.ls) = g55.r := by kernel_rfl
set_option maxRecDepth 1000000 in
theorem g55_b : stgB g55 = true := by kernel_rfl
theorem g55_ok : StageOk Tryz.prog plans 68 g55 := ⟨g55_b, sumsQ, _, _, sumsQ_ok, g55_run⟩
set_option maxRecDepth 1000000 in
theorem g56_run : callG Tryz.prog (ev Tryz.prog plans sumsQ (nat_lit 100000) 100000) 70 g56.args g56.s0 (chkK g56.h g56.l0 g56.ls) = g56.r := by kernel_rfl
set_option maxRecDepth 1000000 in
theorem g56_b : stgB g56 = true := by kernel_rfl
theorem g56_ok : StageOk Tryz.prog plans 70 g56 := ⟨g56_b, sumsQ, _, _, sumsQ_ok, g56_run⟩
set_option maxRecDepth 1000000 in
theorem g57_run : callG Tryz.prog (ev Tryz.prog plans sumsQ (nat_lit 100000) 100000) 70 g57.args g57.s0 (chkK g57.h g57.l0 g57.ls) = g57.r := by kernel_rfl
set_option maxRecDepth 1000000 in
theorem g57_b : stgB g57 = true := by kernel_rfl
theorem g57_ok : StageOk Tryz.prog plans 70 g57 := ⟨g57_b, sumsQ, _, _, sumsQ_ok, g57_run⟩
set_option maxRecDepth 1000000 in
theorem g58_run : callG Tryz.prog (ev Tryz.prog plans sumsQ (nat_lit 100000) 100000) 68 g58.args g58.s0 (chkK g58.h g58.l0 g58.ls) = g58.r := by kernel_rfl
set_option maxRecDepth 1000000 in
theorem g58_b : stgB g58 = true := by kernel_rfl
theorem g58_ok : StageOk Tryz.prog plans 68 g58 := ⟨g58_b, sumsQ, _, _, sumsQ_ok, g58_run⟩
set_option maxRecDepth 1000000 in
theorem g59_run : callG Tryz.prog (ev Tryz.prog plans sumsQ (nat_lit 100000) 100000) 70 g59.args g59.s0 (chkK g59.h g59.l0 g59.ls) = g59.r := by kernel_rfl
set_option maxRecDepth 1000000 in
theorem g59_b : stgB g59 = true := by kernel_rfl
theorem g59_ok : StageOk Tryz.prog plans 70 g59 := ⟨g59_b, sumsQ, _, _, sumsQ_ok, g59_run⟩
set_option maxRecDepth 1000000 in
theorem g60_run : callG Tryz.prog (ev Tryz.prog plans sumsQ (nat_lit 100000) 100000) 70 g60.args g60.s0 (chkK g60.h g60.l0 g60.ls) = g60.r := by kernel_rfl
set_option maxRecDepth 1000000 in
theorem g60_b : stgB g60 = true := by kernel_rfl
theorem g60_ok : StageOk Tryz.prog plans 70 g60 := ⟨g60_b, sumsQ, _, _, sumsQ_ok, g60_run⟩
set_option maxRecDepth 1000000 in
theorem g61_run : callG Tryz.prog (ev Tryz.prog plans sumsQ (nat_lit 100000) 100000) 68 g61.args g61.s0 (chkK g61.h g61.l0 g61.ls) = g61.r := by kernel_rfl
set_option maxRecDepth 1000000 in
theorem g61_b : stgB g61 = true := by kernel_rfl
theorem g61_ok : StageOk Tryz.prog plans 68 g61 := ⟨g61_b, sumsQ, _, _, sumsQ_ok, g61_run⟩
set_option maxRecDepth 1000000 in
theorem g62_run : callG Tryz.prog (ev Tryz.prog plans sumsQ (nat_lit 100000) 100000) 70 g62.args g62.s0 (chkK g62.h g62.l0 g62.ls) = g62.r := by kernel_rfl
set_option maxRecDepth 1000000 in
theorem g62_b : stgB g62 = true := by kernel_rfl
theorem g62_ok : StageOk Tryz.prog plans 70 g62 := ⟨g62_b, sumsQ, _, _, sumsQ_ok, g62_run⟩
set_option maxRecDepth 1000000 in
theorem g63_run : callG Tryz.prog (ev Tryz.prog plans sumsQ (nat_lit 100000) 100000) 70 g63.args g63.s0 (chkK g63.h g63.l0 g63.ls) = g63.r := by kernel_rfl
set_option maxRecDepth 1000000 in
theorem g63_b : stgB g63 = true := by kernel_rfl
theorem g63_ok : StageOk Tryz.prog plans 70 g63 := ⟨g63_b, sumsQ, _, _, sumsQ_ok, g63_run⟩
set_option maxRecDepth 1000000 in
theorem g64_run : callG Tryz.prog (ev Tryz.prog plans sumsQ (nat_lit 100000) 100000) 70 g64.args g64.s0 (chkK g64.h g64.l0 g64.ls) = g64.r := by kernel_rfl
set_option maxRecDepth 1000000 in
theorem g64_b : stgB g64 = true := by kernel_rfl
theorem g64_ok : StageOk Tryz.prog plans 70 g64 := ⟨g64_b, sumsQ, _, _, sumsQ_ok, g64_run⟩
set_option maxRecDepth 1000000 in
theorem g65_run : callG Tryz.prog (ev Tryz.prog plans sumsQ (nat_lit 100000) 100000) 70 g65.args g65.s0 (chkK g65.h g65.l0 g65.ls) = g65.r := by kernel_rfl
set_option maxRecDepth 1000000 in
theorem g65_b : stgB g65 = true := by kernel_rfl
theorem g65_ok : StageOk Tryz.prog plans 70 g65 := ⟨g65_b, sumsQ, _, _, sumsQ_ok, g65_run⟩
set_option maxRecDepth 1000000 in
theorem g66_run : callG Tryz.prog (ev Tryz.prog plans sumsQ (nat_lit 100000) 100000) 68 g66.args g66.s0 (chkK g66.h g66.l0 g66.ls) = g66.r := by kernel_rfl
set_option maxRecDepth 1000000 in
theorem g66_b : stgB g66 = true := by kernel_rfl
theorem g66_ok : StageOk Tryz.prog plans 68 g66 := ⟨g66_b, sumsQ, _, _, sumsQ_ok, g66_run⟩
set_option maxRecDepth 1000000 in
theorem g67_run : callG Tryz.prog (ev Tryz.prog plans sumsQ (nat_lit 100000) 100000) 70 g67.args g67.s0 (chkK g67.h g67.l0 g67.ls) = g67.r := by kernel_rfl
set_option maxRecDepth 1000000 in
theorem g67_b : stgB g67 = true := by kernel_rfl
theorem g67_ok : StageOk Tryz.prog plans 70 g67 := ⟨g67_b, sumsQ, _, _, sumsQ_ok, g67_run⟩
set_option maxRecDepth 1000000 in
theorem g68_run : callG Tryz.prog (ev Tryz.prog plans sumsQ (nat_lit 100000) 100000) 70 g68.args g68.s0 (chkK g68.h g68.l0 g68.ls) = g68.r := by kernel_rfl
set_option maxRecDepth 1000000 in
theorem g68_b : stgB g68 = true := by kernel_rfl
theorem g68_ok : StageOk Tryz.prog plans 70 g68 := ⟨g68_b, sumsQ, _, _, sumsQ_ok, g68_run⟩

end Go.Proofs.YtnhpfkjblnclnaaGreat.worldRefuses.t

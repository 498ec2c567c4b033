/-
  Stages of WorldCloses: that they run so.
-/
import Derived.Test.YtggoagemdhflfaaGreatSgC
import Derived.Test.YtggoagemdhflfaaGreatPlsOk
import Derived.Test.YtggoagemdhflfaaGreatSson
set_option linter.unusedVariables false
set_option linter.unusedSimpArgs false
namespace Go.Proofs.YtggoagemdhflfaaGreat.worldCloses
open Go

set_option maxRecDepth 1000000 in
theorem g48_run : callG Tryz.prog (ev Tryz.prog plans sumsW (nat_lit 100000) 100000) 86 g48.args g48.s0 (chkK g48.h g48.ls) = g48.r := by kernel_rfl
set_option maxRecDepth 1000000 in
theorem g48_b : stgB g48 = true := by kernel_rfl
theorem g48_ok : StageOk Tryz.prog plans 86 g48 := ⟨g48_b, sumsW, _, _, sumsW_ok, g48_run⟩
set_option maxRecDepth 1000000 in
theorem g49_run : callG Tryz.prog (ev Tryz.prog plans sumsW (nat_lit 100000) 100000) 86 g49.args g49.s0 (chkK g49.h g49.ls) = g49.r := by kernel_rfl
set_option maxRecDepth 1000000 in
theorem g49_b : stgB g49 = true := by kernel_rfl
theorem g49_ok : StageOk Tryz.prog plans 86 g49 := ⟨g49_b, sumsW, _, _, sumsW_ok, g49_run⟩
set_option maxRecDepth 1000000 in
theorem g50_run : callG Tryz.prog (ev Tryz.prog plans sumsW (nat_lit 100000) 100000) 86 g50.args g50.s0 (chkK g50.h g50.ls) = g50.r := by kernel_rfl
set_option maxRecDepth 1000000 in
theorem g50_b : stgB g50 = true := by kernel_rfl
theorem g50_ok : StageOk Tryz.prog plans 86 g50 := ⟨g50_b, sumsW, _, _, sumsW_ok, g50_run⟩
set_option maxRecDepth 1000000 in
theorem g51_run : callG Tryz.prog (ev Tryz.prog plans sumsW (nat_lit 100000) 100000) 86 g51.args g51.s0 (chkK g51.h g51.ls) = g51.r := by kernel_rfl
set_option maxRecDepth 1000000 in
theorem g51_b : stgB g51 = true := by kernel_rfl
theorem g51_ok : StageOk Tryz.prog plans 86 g51 := ⟨g51_b, sumsW, _, _, sumsW_ok, g51_run⟩
set_option maxRecDepth 1000000 in
theorem g52_run : callG Tryz.prog (ev Tryz.prog plans sumsW (nat_lit 100000) 100000) 39 g52.args g52.s0 (chkK g52.h g52.ls) = g52.r := by kernel_rfl
set_option maxRecDepth 1000000 in
theorem g52_b : stgB g52 = true := by kernel_rfl
theorem g52_ok : StageOk Tryz.prog plans 39 g52 := ⟨g52_b, sumsW, _, _, sumsW_ok, g52_run⟩
set_option maxRecDepth 1000000 in
theorem g53_run : callG Tryz.prog (ev Tryz.prog plans sumsW (nat_lit 100000) 100000) 39 g53.args g53.s0 (chkK g53.h g53.ls) = g53.r := by kernel_rfl
set_option maxRecDepth 1000000 in
theorem g53_b : stgB g53 = true := by kernel_rfl
theorem g53_ok : StageOk Tryz.prog plans 39 g53 := ⟨g53_b, sumsW, _, _, sumsW_ok, g53_run⟩
set_option maxRecDepth 1000000 in
theorem g54_run : callG Tryz.prog (ev Tryz.prog plans sumsW (nat_lit 100000) 100000) 39 g54.args g54.s0 (chkK g54.h g54.ls) = g54.r := by kernel_rfl
set_option maxRecDepth 1000000 in
theorem g54_b : stgB g54 = true := by kernel_rfl
theorem g54_ok : StageOk Tryz.prog plans 39 g54 := ⟨g54_b, sumsW, _, _, sumsW_ok, g54_run⟩
set_option maxRecDepth 1000000 in
theorem g55_run : callG Tryz.prog (ev Tryz.prog plans sumsW (nat_lit 100000) 100000) 39 g55.args g55.s0 (chkK g55.h g55.ls) = g55.r := by kernel_rfl
set_option maxRecDepth 1000000 in
theorem g55_b : stgB g55 = true := by kernel_rfl
theorem g55_ok : StageOk Tryz.prog plans 39 g55 := ⟨g55_b, sumsW, _, _, sumsW_ok, g55_run⟩
set_option maxRecDepth 1000000 in
theorem g56_run : callG Tryz.prog (ev Tryz.prog plans sumsW (nat_lit 100000) 100000) 39 g56.args g56.s0 (chkK g56.h g56.ls) = g56.r := by kernel_rfl
set_option maxRecDepth 1000000 in
theorem g56_b : stgB g56 = true := by kernel_rfl
theorem g56_ok : StageOk Tryz.prog plans 39 g56 := ⟨g56_b, sumsW, _, _, sumsW_ok, g56_run⟩
set_option maxRecDepth 1000000 in
theorem g57_run : callG Tryz.prog (ev Tryz.prog plans sumsW (nat_lit 100000) 100000) 84 g57.args g57.s0 (chkK g57.h g57.ls) = g57.r := by kernel_rfl
set_option maxRecDepth 1000000 in
theorem g57_b : stgB g57 = true := by kernel_rfl
theorem g57_ok : StageOk Tryz.prog plans 84 g57 := ⟨g57_b, sumsW, _, _, sumsW_ok, g57_run⟩
set_option maxRecDepth 1000000 in
theorem g58_run : callG Tryz.prog (ev Tryz.prog plans sumsW (nat_lit 100000) 100000) 84 g58.args g58.s0 (chkK g58.h g58.ls) = g58.r := by kernel_rfl
set_option maxRecDepth 1000000 in
theorem g58_b : stgB g58 = true := by kernel_rfl
theorem g58_ok : StageOk Tryz.prog plans 84 g58 := ⟨g58_b, sumsW, _, _, sumsW_ok, g58_run⟩
set_option maxRecDepth 1000000 in
theorem g59_run : callG Tryz.prog (ev Tryz.prog plans sumsW (nat_lit 100000) 100000) 86 g59.args g59.s0 (chkK g59.h g59.ls) = g59.r := by kernel_rfl
set_option maxRecDepth 1000000 in
theorem g59_b : stgB g59 = true := by kernel_rfl
theorem g59_ok : StageOk Tryz.prog plans 86 g59 := ⟨g59_b, sumsW, _, _, sumsW_ok, g59_run⟩
set_option maxRecDepth 1000000 in
theorem g60_run : callG Tryz.prog (ev Tryz.prog plans sumsW (nat_lit 100000) 100000) 38 g60.args g60.s0 (chkK g60.h g60.ls) = g60.r := by kernel_rfl
set_option maxRecDepth 1000000 in
theorem g60_b : stgB g60 = true := by kernel_rfl
theorem g60_ok : StageOk Tryz.prog plans 38 g60 := ⟨g60_b, sumsW, _, _, sumsW_ok, g60_run⟩

end Go.Proofs.YtggoagemdhflfaaGreat.worldCloses

/-
  Stages of SockRoom: that they run so.
-/
import Derived.Test.YtggoagemdhflfaaGreatSgR
import Derived.Test.YtggoagemdhflfaaGreatPlsOk
import Derived.Test.YtggoagemdhflfaaGreatSson
set_option linter.unusedVariables false
set_option linter.unusedSimpArgs false
namespace Go.Proofs.YtggoagemdhflfaaGreat.sockRoom
open Go

set_option maxRecDepth 1000000 in
theorem g51_run : callG Tryz.prog (ev Tryz.prog plans sumsW (nat_lit 100000) 100000) 31 g51.args g51.s0 (chkK g51.h g51.ls) = g51.r := by kernel_rfl
set_option maxRecDepth 1000000 in
theorem g51_b : stgB g51 = true := by kernel_rfl
theorem g51_ok : StageOk Tryz.prog plans 31 g51 := ⟨g51_b, sumsW, _, _, sumsW_ok, g51_run⟩
set_option maxRecDepth 1000000 in
theorem g52_run : callG Tryz.prog (ev Tryz.prog plans sumsW (nat_lit 100000) 100000) 31 g52.args g52.s0 (chkK g52.h g52.ls) = g52.r := by kernel_rfl
set_option maxRecDepth 1000000 in
theorem g52_b : stgB g52 = true := by kernel_rfl
theorem g52_ok : StageOk Tryz.prog plans 31 g52 := ⟨g52_b, sumsW, _, _, sumsW_ok, g52_run⟩
set_option maxRecDepth 1000000 in
theorem g53_run : callG Tryz.prog (ev Tryz.prog plans sumsW (nat_lit 100000) 100000) 31 g53.args g53.s0 (chkK g53.h g53.ls) = g53.r := by kernel_rfl
set_option maxRecDepth 1000000 in
theorem g53_b : stgB g53 = true := by kernel_rfl
theorem g53_ok : StageOk Tryz.prog plans 31 g53 := ⟨g53_b, sumsW, _, _, sumsW_ok, g53_run⟩
set_option maxRecDepth 1000000 in
theorem g54_run : callG Tryz.prog (ev Tryz.prog plans sumsW (nat_lit 100000) 100000) 31 g54.args g54.s0 (chkK g54.h g54.ls) = g54.r := by kernel_rfl
set_option maxRecDepth 1000000 in
theorem g54_b : stgB g54 = true := by kernel_rfl
theorem g54_ok : StageOk Tryz.prog plans 31 g54 := ⟨g54_b, sumsW, _, _, sumsW_ok, g54_run⟩
set_option maxRecDepth 1000000 in
theorem g55_run : callG Tryz.prog (ev Tryz.prog plans sumsW (nat_lit 100000) 100000) 31 g55.args g55.s0 (chkK g55.h g55.ls) = g55.r := by kernel_rfl
set_option maxRecDepth 1000000 in
theorem g55_b : stgB g55 = true := by kernel_rfl
theorem g55_ok : StageOk Tryz.prog plans 31 g55 := ⟨g55_b, sumsW, _, _, sumsW_ok, g55_run⟩
set_option maxRecDepth 1000000 in
theorem g56_run : callG Tryz.prog (ev Tryz.prog plans sumsW (nat_lit 100000) 100000) 31 g56.args g56.s0 (chkK g56.h g56.ls) = g56.r := by kernel_rfl
set_option maxRecDepth 1000000 in
theorem g56_b : stgB g56 = true := by kernel_rfl
theorem g56_ok : StageOk Tryz.prog plans 31 g56 := ⟨g56_b, sumsW, _, _, sumsW_ok, g56_run⟩
set_option maxRecDepth 1000000 in
theorem g57_run : callG Tryz.prog (ev Tryz.prog plans sumsW (nat_lit 100000) 100000) 31 g57.args g57.s0 (chkK g57.h g57.ls) = g57.r := by kernel_rfl
set_option maxRecDepth 1000000 in
theorem g57_b : stgB g57 = true := by kernel_rfl
theorem g57_ok : StageOk Tryz.prog plans 31 g57 := ⟨g57_b, sumsW, _, _, sumsW_ok, g57_run⟩
set_option maxRecDepth 1000000 in
theorem g58_run : callG Tryz.prog (ev Tryz.prog plans sumsW (nat_lit 100000) 100000) 31 g58.args g58.s0 (chkK g58.h g58.ls) = g58.r := by kernel_rfl
set_option maxRecDepth 1000000 in
theorem g58_b : stgB g58 = true := by kernel_rfl
theorem g58_ok : StageOk Tryz.prog plans 31 g58 := ⟨g58_b, sumsW, _, _, sumsW_ok, g58_run⟩
set_option maxRecDepth 1000000 in
theorem g59_run : callG Tryz.prog (ev Tryz.prog plans sumsW (nat_lit 100000) 100000) 31 g59.args g59.s0 (chkK g59.h g59.ls) = g59.r := by kernel_rfl
set_option maxRecDepth 1000000 in
theorem g59_b : stgB g59 = true := by kernel_rfl
theorem g59_ok : StageOk Tryz.prog plans 31 g59 := ⟨g59_b, sumsW, _, _, sumsW_ok, g59_run⟩
set_option maxRecDepth 1000000 in
theorem g60_run : callG Tryz.prog (ev Tryz.prog plans sumsW (nat_lit 100000) 100000) 31 g60.args g60.s0 (chkK g60.h g60.ls) = g60.r := by kernel_rfl
set_option maxRecDepth 1000000 in
theorem g60_b : stgB g60 = true := by kernel_rfl
theorem g60_ok : StageOk Tryz.prog plans 31 g60 := ⟨g60_b, sumsW, _, _, sumsW_ok, g60_run⟩
set_option maxRecDepth 1000000 in
theorem g61_run : callG Tryz.prog (ev Tryz.prog plans sumsW (nat_lit 100000) 100000) 31 g61.args g61.s0 (chkK g61.h g61.ls) = g61.r := by kernel_rfl
set_option maxRecDepth 1000000 in
theorem g61_b : stgB g61 = true := by kernel_rfl
theorem g61_ok : StageOk Tryz.prog plans 31 g61 := ⟨g61_b, sumsW, _, _, sumsW_ok, g61_run⟩
set_option maxRecDepth 1000000 in
theorem g62_run : callG Tryz.prog (ev Tryz.prog plans sumsW (nat_lit 100000) 100000) 31 g62.args g62.s0 (chkK g62.h g62.ls) = g62.r := by kernel_rfl
set_option maxRecDepth 1000000 in
theorem g62_b : stgB g62 = true := by kernel_rfl
theorem g62_ok : StageOk Tryz.prog plans 31 g62 := ⟨g62_b, sumsW, _, _, sumsW_ok, g62_run⟩
set_option maxRecDepth 1000000 in
theorem g63_run : callG Tryz.prog (ev Tryz.prog plans sumsW (nat_lit 100000) 100000) 31 g63.args g63.s0 (chkK g63.h g63.ls) = g63.r := by kernel_rfl
set_option maxRecDepth 1000000 in
theorem g63_b : stgB g63 = true := by kernel_rfl
theorem g63_ok : StageOk Tryz.prog plans 31 g63 := ⟨g63_b, sumsW, _, _, sumsW_ok, g63_run⟩
set_option maxRecDepth 1000000 in
theorem g64_run : callG Tryz.prog (ev Tryz.prog plans sumsW (nat_lit 100000) 100000) 31 g64.args g64.s0 (chkK g64.h g64.ls) = g64.r := by kernel_rfl
set_option maxRecDepth 1000000 in
theorem g64_b : stgB g64 = true := by kernel_rfl
theorem g64_ok : StageOk Tryz.prog plans 31 g64 := ⟨g64_b, sumsW, _, _, sumsW_ok, g64_run⟩

end Go.Proofs.YtggoagemdhflfaaGreat.sockRoom

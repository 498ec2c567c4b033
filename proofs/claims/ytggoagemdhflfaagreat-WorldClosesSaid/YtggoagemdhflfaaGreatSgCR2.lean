/-
  Stages of WorldCloses: that they run so.
-/
import Derived.Test.YtggoagemdhflfaaGreatSgC
import Derived.Test.YtggoagemdhflfaaGreatPlsOk
import Derived.Test.YtggoagemdhflfaaGreatSson
set_option linter.unusedVariables false
set_option linter.unusedSimpArgs false
namespace Go.Proofs.YtggoagemdhflfaaGreat.worldCloses
open Go

set_option maxRecDepth 1000000 in
theorem g32_run : callG Tryz.prog (ev Tryz.prog plans sumsW (nat_lit 100000) 100000) 86 g32.args g32.s0 (chkK g32.h g32.ls) = g32.r := by kernel_rfl
set_option maxRecDepth 1000000 in
theorem g32_b : stgB g32 = true := by kernel_rfl
theorem g32_ok : StageOk Tryz.prog plans 86 g32 := ⟨g32_b, sumsW, _, _, sumsW_ok, g32_run⟩
set_option maxRecDepth 1000000 in
theorem g33_run : callG Tryz.prog (ev Tryz.prog plans sumsW (nat_lit 100000) 100000) 86 g33.args g33.s0 (chkK g33.h g33.ls) = g33.r := by kernel_rfl
set_option maxRecDepth 1000000 in
theorem g33_b : stgB g33 = true := by kernel_rfl
theorem g33_ok : StageOk Tryz.prog plans 86 g33 := ⟨g33_b, sumsW, _, _, sumsW_ok, g33_run⟩
set_option maxRecDepth 1000000 in
theorem g34_run : callG Tryz.prog (ev Tryz.prog plans sumsW (nat_lit 100000) 100000) 86 g34.args g34.s0 (chkK g34.h g34.ls) = g34.r := by kernel_rfl
set_option maxRecDepth 1000000 in
theorem g34_b : stgB g34 = true := by kernel_rfl
theorem g34_ok : StageOk Tryz.prog plans 86 g34 := ⟨g34_b, sumsW, _, _, sumsW_ok, g34_run⟩
set_option maxRecDepth 1000000 in
theorem g35_run : callG Tryz.prog (ev Tryz.prog plans sumsW (nat_lit 100000) 100000) 86 g35.args g35.s0 (chkK g35.h g35.ls) = g35.r := by kernel_rfl
set_option maxRecDepth 1000000 in
theorem g35_b : stgB g35 = true := by kernel_rfl
theorem g35_ok : StageOk Tryz.prog plans 86 g35 := ⟨g35_b, sumsW, _, _, sumsW_ok, g35_run⟩
set_option maxRecDepth 1000000 in
theorem g36_run : callG Tryz.prog (ev Tryz.prog plans sumsW (nat_lit 100000) 100000) 86 g36.args g36.s0 (chkK g36.h g36.ls) = g36.r := by kernel_rfl
set_option maxRecDepth 1000000 in
theorem g36_b : stgB g36 = true := by kernel_rfl
theorem g36_ok : StageOk Tryz.prog plans 86 g36 := ⟨g36_b, sumsW, _, _, sumsW_ok, g36_run⟩
set_option maxRecDepth 1000000 in
theorem g37_run : callG Tryz.prog (ev Tryz.prog plans sumsW (nat_lit 100000) 100000) 86 g37.args g37.s0 (chkK g37.h g37.ls) = g37.r := by kernel_rfl
set_option maxRecDepth 1000000 in
theorem g37_b : stgB g37 = true := by kernel_rfl
theorem g37_ok : StageOk Tryz.prog plans 86 g37 := ⟨g37_b, sumsW, _, _, sumsW_ok, g37_run⟩
set_option maxRecDepth 1000000 in
theorem g38_run : callG Tryz.prog (ev Tryz.prog plans sumsW (nat_lit 100000) 100000) 86 g38.args g38.s0 (chkK g38.h g38.ls) = g38.r := by kernel_rfl
set_option maxRecDepth 1000000 in
theorem g38_b : stgB g38 = true := by kernel_rfl
theorem g38_ok : StageOk Tryz.prog plans 86 g38 := ⟨g38_b, sumsW, _, _, sumsW_ok, g38_run⟩
set_option maxRecDepth 1000000 in
theorem g39_run : callG Tryz.prog (ev Tryz.prog plans sumsW (nat_lit 100000) 100000) 86 g39.args g39.s0 (chkK g39.h g39.ls) = g39.r := by kernel_rfl
set_option maxRecDepth 1000000 in
theorem g39_b : stgB g39 = true := by kernel_rfl
theorem g39_ok : StageOk Tryz.prog plans 86 g39 := ⟨g39_b, sumsW, _, _, sumsW_ok, g39_run⟩
set_option maxRecDepth 1000000 in
theorem g40_run : callG Tryz.prog (ev Tryz.prog plans sumsW (nat_lit 100000) 100000) 86 g40.args g40.s0 (chkK g40.h g40.ls) = g40.r := by kernel_rfl
set_option maxRecDepth 1000000 in
theorem g40_b : stgB g40 = true := by kernel_rfl
theorem g40_ok : StageOk Tryz.prog plans 86 g40 := ⟨g40_b, sumsW, _, _, sumsW_ok, g40_run⟩
set_option maxRecDepth 1000000 in
theorem g41_run : callG Tryz.prog (ev Tryz.prog plans sumsW (nat_lit 100000) 100000) 86 g41.args g41.s0 (chkK g41.h g41.ls) = g41.r := by kernel_rfl
set_option maxRecDepth 1000000 in
theorem g41_b : stgB g41 = true := by kernel_rfl
theorem g41_ok : StageOk Tryz.prog plans 86 g41 := ⟨g41_b, sumsW, _, _, sumsW_ok, g41_run⟩
set_option maxRecDepth 1000000 in
theorem g42_run : callG Tryz.prog (ev Tryz.prog plans sumsW (nat_lit 100000) 100000) 86 g42.args g42.s0 (chkK g42.h g42.ls) = g42.r := by kernel_rfl
set_option maxRecDepth 1000000 in
theorem g42_b : stgB g42 = true := by kernel_rfl
theorem g42_ok : StageOk Tryz.prog plans 86 g42 := ⟨g42_b, sumsW, _, _, sumsW_ok, g42_run⟩
set_option maxRecDepth 1000000 in
theorem g43_run : callG Tryz.prog (ev Tryz.prog plans sumsW (nat_lit 100000) 100000) 86 g43.args g43.s0 (chkK g43.h g43.ls) = g43.r := by kernel_rfl
set_option maxRecDepth 1000000 in
theorem g43_b : stgB g43 = true := by kernel_rfl
theorem g43_ok : StageOk Tryz.prog plans 86 g43 := ⟨g43_b, sumsW, _, _, sumsW_ok, g43_run⟩
set_option maxRecDepth 1000000 in
theorem g44_run : callG Tryz.prog (ev Tryz.prog plans sumsW (nat_lit 100000) 100000) 86 g44.args g44.s0 (chkK g44.h g44.ls) = g44.r := by kernel_rfl
set_option maxRecDepth 1000000 in
theorem g44_b : stgB g44 = true := by kernel_rfl
theorem g44_ok : StageOk Tryz.prog plans 86 g44 := ⟨g44_b, sumsW, _, _, sumsW_ok, g44_run⟩
set_option maxRecDepth 1000000 in
theorem g45_run : callG Tryz.prog (ev Tryz.prog plans sumsW (nat_lit 100000) 100000) 86 g45.args g45.s0 (chkK g45.h g45.ls) = g45.r := by kernel_rfl
set_option maxRecDepth 1000000 in
theorem g45_b : stgB g45 = true := by kernel_rfl
theorem g45_ok : StageOk Tryz.prog plans 86 g45 := ⟨g45_b, sumsW, _, _, sumsW_ok, g45_run⟩
set_option maxRecDepth 1000000 in
theorem g46_run : callG Tryz.prog (ev Tryz.prog plans sumsW (nat_lit 100000) 100000) 86 g46.args g46.s0 (chkK g46.h g46.ls) = g46.r := by kernel_rfl
set_option maxRecDepth 1000000 in
theorem g46_b : stgB g46 = true := by kernel_rfl
theorem g46_ok : StageOk Tryz.prog plans 86 g46 := ⟨g46_b, sumsW, _, _, sumsW_ok, g46_run⟩
set_option maxRecDepth 1000000 in
theorem g47_run : callG Tryz.prog (ev Tryz.prog plans sumsW (nat_lit 100000) 100000) 86 g47.args g47.s0 (chkK g47.h g47.ls) = g47.r := by kernel_rfl
set_option maxRecDepth 1000000 in
theorem g47_b : stgB g47 = true := by kernel_rfl
theorem g47_ok : StageOk Tryz.prog plans 86 g47 := ⟨g47_b, sumsW, _, _, sumsW_ok, g47_run⟩

end Go.Proofs.YtggoagemdhflfaaGreat.worldCloses

/-
  Stages of SockRoom: that they run so.
-/
import Derived.Test.YtggoagemdhflfaaGreatSgR
import Derived.Test.YtggoagemdhflfaaGreatPlsOk
import Derived.Test.YtggoagemdhflfaaGreatSson
set_option linter.unusedVariables false
set_option linter.unusedSimpArgs false
namespace Go.Proofs.YtggoagemdhflfaaGreat.sockRoom
open Go

set_option maxRecDepth 1000000 in
theorem g34_run : callG Tryz.prog (ev Tryz.prog plans sumsW (nat_lit 100000) 100000) 31 g34.args g34.s0 (chkK g34.h g34.ls) = g34.r := by kernel_rfl
set_option maxRecDepth 1000000 in
theorem g34_b : stgB g34 = true := by kernel_rfl
theorem g34_ok : StageOk Tryz.prog plans 31 g34 := ⟨g34_b, sumsW, _, _, sumsW_ok, g34_run⟩
set_option maxRecDepth 1000000 in
theorem g35_run : callG Tryz.prog (ev Tryz.prog plans sumsW (nat_lit 100000) 100000) 31 g35.args g35.s0 (chkK g35.h g35.ls) = g35.r := by kernel_rfl
set_option maxRecDepth 1000000 in
theorem g35_b : stgB g35 = true := by kernel_rfl
theorem g35_ok : StageOk Tryz.prog plans 31 g35 := ⟨g35_b, sumsW, _, _, sumsW_ok, g35_run⟩
set_option maxRecDepth 1000000 in
theorem g36_run : callG Tryz.prog (ev Tryz.prog plans sumsW (nat_lit 100000) 100000) 31 g36.args g36.s0 (chkK g36.h g36.ls) = g36.r := by kernel_rfl
set_option maxRecDepth 1000000 in
theorem g36_b : stgB g36 = true := by kernel_rfl
theorem g36_ok : StageOk Tryz.prog plans 31 g36 := ⟨g36_b, sumsW, _, _, sumsW_ok, g36_run⟩
set_option maxRecDepth 1000000 in
theorem g37_run : callG Tryz.prog (ev Tryz.prog plans sumsW (nat_lit 100000) 100000) 31 g37.args g37.s0 (chkK g37.h g37.ls) = g37.r := by kernel_rfl
set_option maxRecDepth 1000000 in
theorem g37_b : stgB g37 = true := by kernel_rfl
theorem g37_ok : StageOk Tryz.prog plans 31 g37 := ⟨g37_b, sumsW, _, _, sumsW_ok, g37_run⟩
set_option maxRecDepth 1000000 in
theorem g38_run : callG Tryz.prog (ev Tryz.prog plans sumsW (nat_lit 100000) 100000) 31 g38.args g38.s0 (chkK g38.h g38.ls) = g38.r := by kernel_rfl
set_option maxRecDepth 1000000 in
theorem g38_b : stgB g38 = true := by kernel_rfl
theorem g38_ok : StageOk Tryz.prog plans 31 g38 := ⟨g38_b, sumsW, _, _, sumsW_ok, g38_run⟩
set_option maxRecDepth 1000000 in
theorem g39_run : callG Tryz.prog (ev Tryz.prog plans sumsW (nat_lit 100000) 100000) 31 g39.args g39.s0 (chkK g39.h g39.ls) = g39.r := by kernel_rfl
set_option maxRecDepth 1000000 in
theorem g39_b : stgB g39 = true := by kernel_rfl
theorem g39_ok : StageOk Tryz.prog plans 31 g39 := ⟨g39_b, sumsW, _, _, sumsW_ok, g39_run⟩
set_option maxRecDepth 1000000 in
theorem g40_run : callG Tryz.prog (ev Tryz.prog plans sumsW (nat_lit 100000) 100000) 31 g40.args g40.s0 (chkK g40.h g40.ls) = g40.r := by kernel_rfl
set_option maxRecDepth 1000000 in
theorem g40_b : stgB g40 = true := by kernel_rfl
theorem g40_ok : StageOk Tryz.prog plans 31 g40 := ⟨g40_b, sumsW, _, _, sumsW_ok, g40_run⟩
set_option maxRecDepth 1000000 in
theorem g41_run : callG Tryz.prog (ev Tryz.prog plans sumsW (nat_lit 100000) 100000) 31 g41.args g41.s0 (chkK g41.h g41.ls) = g41.r := by kernel_rfl
set_option maxRecDepth 1000000 in
theorem g41_b : stgB g41 = true := by kernel_rfl
theorem g41_ok : StageOk Tryz.prog plans 31 g41 := ⟨g41_b, sumsW, _, _, sumsW_ok, g41_run⟩
set_option maxRecDepth 1000000 in
theorem g42_run : callG Tryz.prog (ev Tryz.prog plans sumsW (nat_lit 100000) 100000) 31 g42.args g42.s0 (chkK g42.h g42.ls) = g42.r := by kernel_rfl
set_option maxRecDepth 1000000 in
theorem g42_b : stgB g42 = true := by kernel_rfl
theorem g42_ok : StageOk Tryz.prog plans 31 g42 := ⟨g42_b, sumsW, _, _, sumsW_ok, g42_run⟩
set_option maxRecDepth 1000000 in
theorem g43_run : callG Tryz.prog (ev Tryz.prog plans sumsW (nat_lit 100000) 100000) 31 g43.args g43.s0 (chkK g43.h g43.ls) = g43.r := by kernel_rfl
set_option maxRecDepth 1000000 in
theorem g43_b : stgB g43 = true := by kernel_rfl
theorem g43_ok : StageOk Tryz.prog plans 31 g43 := ⟨g43_b, sumsW, _, _, sumsW_ok, g43_run⟩
set_option maxRecDepth 1000000 in
theorem g44_run : callG Tryz.prog (ev Tryz.prog plans sumsW (nat_lit 100000) 100000) 31 g44.args g44.s0 (chkK g44.h g44.ls) = g44.r := by kernel_rfl
set_option maxRecDepth 1000000 in
theorem g44_b : stgB g44 = true := by kernel_rfl
theorem g44_ok : StageOk Tryz.prog plans 31 g44 := ⟨g44_b, sumsW, _, _, sumsW_ok, g44_run⟩
set_option maxRecDepth 1000000 in
theorem g45_run : callG Tryz.prog (ev Tryz.prog plans sumsW (nat_lit 100000) 100000) 31 g45.args g45.s0 (chkK g45.h g45.ls) = g45.r := by kernel_rfl
set_option maxRecDepth 1000000 in
theorem g45_b : stgB g45 = true := by kernel_rfl
theorem g45_ok : StageOk Tryz.prog plans 31 g45 := ⟨g45_b, sumsW, _, _, sumsW_ok, g45_run⟩
set_option maxRecDepth 1000000 in
theorem g46_run : callG Tryz.prog (ev Tryz.prog plans sumsW (nat_lit 100000) 100000) 31 g46.args g46.s0 (chkK g46.h g46.ls) = g46.r := by kernel_rfl
set_option maxRecDepth 1000000 in
theorem g46_b : stgB g46 = true := by kernel_rfl
theorem g46_ok : StageOk Tryz.prog plans 31 g46 := ⟨g46_b, sumsW, _, _, sumsW_ok, g46_run⟩
set_option maxRecDepth 1000000 in
theorem g47_run : callG Tryz.prog (ev Tryz.prog plans sumsW (nat_lit 100000) 100000) 31 g47.args g47.s0 (chkK g47.h g47.ls) = g47.r := by kernel_rfl
set_option maxRecDepth 1000000 in
theorem g47_b : stgB g47 = true := by kernel_rfl
theorem g47_ok : StageOk Tryz.prog plans 31 g47 := ⟨g47_b, sumsW, _, _, sumsW_ok, g47_run⟩
set_option maxRecDepth 1000000 in
theorem g48_run : callG Tryz.prog (ev Tryz.prog plans sumsW (nat_lit 100000) 100000) 31 g48.args g48.s0 (chkK g48.h g48.ls) = g48.r := by kernel_rfl
set_option maxRecDepth 1000000 in
theorem g48_b : stgB g48 = true := by kernel_rfl
theorem g48_ok : StageOk Tryz.prog plans 31 g48 := ⟨g48_b, sumsW, _, _, sumsW_ok, g48_run⟩
set_option maxRecDepth 1000000 in
theorem g49_run : callG Tryz.prog (ev Tryz.prog plans sumsW (nat_lit 100000) 100000) 31 g49.args g49.s0 (chkK g49.h g49.ls) = g49.r := by kernel_rfl
set_option maxRecDepth 1000000 in
theorem g49_b : stgB g49 = true := by kernel_rfl
theorem g49_ok : StageOk Tryz.prog plans 31 g49 := ⟨g49_b, sumsW, _, _, sumsW_ok, g49_run⟩
set_option maxRecDepth 1000000 in
theorem g50_run : callG Tryz.prog (ev Tryz.prog plans sumsW (nat_lit 100000) 100000) 31 g50.args g50.s0 (chkK g50.h g50.ls) = g50.r := by kernel_rfl
set_option maxRecDepth 1000000 in
theorem g50_b : stgB g50 = true := by kernel_rfl
theorem g50_ok : StageOk Tryz.prog plans 31 g50 := ⟨g50_b, sumsW, _, _, sumsW_ok, g50_run⟩

end Go.Proofs.YtggoagemdhflfaaGreat.sockRoom

/-
  Stages of SockRoom: that they run so.
-/
import Derived.Test.YtggoagemdhflfaaGreatSgR
import Derived.Test.YtggoagemdhflfaaGreatPlsOk
import Derived.Test.YtggoagemdhflfaaGreatSson
set_option linter.unusedVariables false
set_option linter.unusedSimpArgs false
namespace Go.Proofs.YtggoagemdhflfaaGreat.sockRoom
open Go

set_option maxRecDepth 1000000 in
theorem g17_run : callG Tryz.prog (ev Tryz.prog plans sumsW (nat_lit 100000) 100000) 31 g17.args g17.s0 (chkK g17.h g17.ls) = g17.r := by kernel_rfl
set_option maxRecDepth 1000000 in
theorem g17_b : stgB g17 = true := by kernel_rfl
theorem g17_ok : StageOk Tryz.prog plans 31 g17 := ⟨g17_b, sumsW, _, _, sumsW_ok, g17_run⟩
set_option maxRecDepth 1000000 in
theorem g18_run : callG Tryz.prog (ev Tryz.prog plans sumsW (nat_lit 100000) 100000) 31 g18.args g18.s0 (chkK g18.h g18.ls) = g18.r := by kernel_rfl
set_option maxRecDepth 1000000 in
theorem g18_b : stgB g18 = true := by kernel_rfl
theorem g18_ok : StageOk Tryz.prog plans 31 g18 := ⟨g18_b, sumsW, _, _, sumsW_ok, g18_run⟩
set_option maxRecDepth 1000000 in
theorem g19_run : callG Tryz.prog (ev Tryz.prog plans sumsW (nat_lit 100000) 100000) 31 g19.args g19.s0 (chkK g19.h g19.ls) = g19.r := by kernel_rfl
set_option maxRecDepth 1000000 in
theorem g19_b : stgB g19 = true := by kernel_rfl
theorem g19_ok : StageOk Tryz.prog plans 31 g19 := ⟨g19_b, sumsW, _, _, sumsW_ok, g19_run⟩
set_option maxRecDepth 1000000 in
theorem g20_run : callG Tryz.prog (ev Tryz.prog plans sumsW (nat_lit 100000) 100000) 31 g20.args g20.s0 (chkK g20.h g20.ls) = g20.r := by kernel_rfl
set_option maxRecDepth 1000000 in
theorem g20_b : stgB g20 = true := by kernel_rfl
theorem g20_ok : StageOk Tryz.prog plans 31 g20 := ⟨g20_b, sumsW, _, _, sumsW_ok, g20_run⟩
set_option maxRecDepth 1000000 in
theorem g21_run : callG Tryz.prog (ev Tryz.prog plans sumsW (nat_lit 100000) 100000) 31 g21.args g21.s0 (chkK g21.h g21.ls) = g21.r := by kernel_rfl
set_option maxRecDepth 1000000 in
theorem g21_b : stgB g21 = true := by kernel_rfl
theorem g21_ok : StageOk Tryz.prog plans 31 g21 := ⟨g21_b, sumsW, _, _, sumsW_ok, g21_run⟩
set_option maxRecDepth 1000000 in
theorem g22_run : callG Tryz.prog (ev Tryz.prog plans sumsW (nat_lit 100000) 100000) 31 g22.args g22.s0 (chkK g22.h g22.ls) = g22.r := by kernel_rfl
set_option maxRecDepth 1000000 in
theorem g22_b : stgB g22 = true := by kernel_rfl
theorem g22_ok : StageOk Tryz.prog plans 31 g22 := ⟨g22_b, sumsW, _, _, sumsW_ok, g22_run⟩
set_option maxRecDepth 1000000 in
theorem g23_run : callG Tryz.prog (ev Tryz.prog plans sumsW (nat_lit 100000) 100000) 31 g23.args g23.s0 (chkK g23.h g23.ls) = g23.r := by kernel_rfl
set_option maxRecDepth 1000000 in
theorem g23_b : stgB g23 = true := by kernel_rfl
theorem g23_ok : StageOk Tryz.prog plans 31 g23 := ⟨g23_b, sumsW, _, _, sumsW_ok, g23_run⟩
set_option maxRecDepth 1000000 in
theorem g24_run : callG Tryz.prog (ev Tryz.prog plans sumsW (nat_lit 100000) 100000) 31 g24.args g24.s0 (chkK g24.h g24.ls) = g24.r := by kernel_rfl
set_option maxRecDepth 1000000 in
theorem g24_b : stgB g24 = true := by kernel_rfl
theorem g24_ok : StageOk Tryz.prog plans 31 g24 := ⟨g24_b, sumsW, _, _, sumsW_ok, g24_run⟩
set_option maxRecDepth 1000000 in
theorem g25_run : callG Tryz.prog (ev Tryz.prog plans sumsW (nat_lit 100000) 100000) 31 g25.args g25.s0 (chkK g25.h g25.ls) = g25.r := by kernel_rfl
set_option maxRecDepth 1000000 in
theorem g25_b : stgB g25 = true := by kernel_rfl
theorem g25_ok : StageOk Tryz.prog plans 31 g25 := ⟨g25_b, sumsW, _, _, sumsW_ok, g25_run⟩
set_option maxRecDepth 1000000 in
theorem g26_run : callG Tryz.prog (ev Tryz.prog plans sumsW (nat_lit 100000) 100000) 31 g26.args g26.s0 (chkK g26.h g26.ls) = g26.r := by kernel_rfl
set_option maxRecDepth 1000000 in
theorem g26_b : stgB g26 = true := by kernel_rfl
theorem g26_ok : StageOk Tryz.prog plans 31 g26 := ⟨g26_b, sumsW, _, _, sumsW_ok, g26_run⟩
set_option maxRecDepth 1000000 in
theorem g27_run : callG Tryz.prog (ev Tryz.prog plans sumsW (nat_lit 100000) 100000) 31 g27.args g27.s0 (chkK g27.h g27.ls) = g27.r := by kernel_rfl
set_option maxRecDepth 1000000 in
theorem g27_b : stgB g27 = true := by kernel_rfl
theorem g27_ok : StageOk Tryz.prog plans 31 g27 := ⟨g27_b, sumsW, _, _, sumsW_ok, g27_run⟩
set_option maxRecDepth 1000000 in
theorem g28_run : callG Tryz.prog (ev Tryz.prog plans sumsW (nat_lit 100000) 100000) 31 g28.args g28.s0 (chkK g28.h g28.ls) = g28.r := by kernel_rfl
set_option maxRecDepth 1000000 in
theorem g28_b : stgB g28 = true := by kernel_rfl
theorem g28_ok : StageOk Tryz.prog plans 31 g28 := ⟨g28_b, sumsW, _, _, sumsW_ok, g28_run⟩
set_option maxRecDepth 1000000 in
theorem g29_run : callG Tryz.prog (ev Tryz.prog plans sumsW (nat_lit 100000) 100000) 31 g29.args g29.s0 (chkK g29.h g29.ls) = g29.r := by kernel_rfl
set_option maxRecDepth 1000000 in
theorem g29_b : stgB g29 = true := by kernel_rfl
theorem g29_ok : StageOk Tryz.prog plans 31 g29 := ⟨g29_b, sumsW, _, _, sumsW_ok, g29_run⟩
set_option maxRecDepth 1000000 in
theorem g30_run : callG Tryz.prog (ev Tryz.prog plans sumsW (nat_lit 100000) 100000) 31 g30.args g30.s0 (chkK g30.h g30.ls) = g30.r := by kernel_rfl
set_option maxRecDepth 1000000 in
theorem g30_b : stgB g30 = true := by kernel_rfl
theorem g30_ok : StageOk Tryz.prog plans 31 g30 := ⟨g30_b, sumsW, _, _, sumsW_ok, g30_run⟩
set_option maxRecDepth 1000000 in
theorem g31_run : callG Tryz.prog (ev Tryz.prog plans sumsW (nat_lit 100000) 100000) 31 g31.args g31.s0 (chkK g31.h g31.ls) = g31.r := by kernel_rfl
set_option maxRecDepth 1000000 in
theorem g31_b : stgB g31 = true := by kernel_rfl
theorem g31_ok : StageOk Tryz.prog plans 31 g31 := ⟨g31_b, sumsW, _, _, sumsW_ok, g31_run⟩
set_option maxRecDepth 1000000 in
theorem g32_run : callG Tryz.prog (ev Tryz.prog plans sumsW (nat_lit 100000) 100000) 31 g32.args g32.s0 (chkK g32.h g32.ls) = g32.r := by kernel_rfl
set_option maxRecDepth 1000000 in
theorem g32_b : stgB g32 = true := by kernel_rfl
theorem g32_ok : StageOk Tryz.prog plans 31 g32 := ⟨g32_b, sumsW, _, _, sumsW_ok, g32_run⟩
set_option maxRecDepth 1000000 in
theorem g33_run : callG Tryz.prog (ev Tryz.prog plans sumsW (nat_lit 100000) 100000) 31 g33.args g33.s0 (chkK g33.h g33.ls) = g33.r := by kernel_rfl
set_option maxRecDepth 1000000 in
theorem g33_b : stgB g33 = true := by kernel_rfl
theorem g33_ok : StageOk Tryz.prog plans 31 g33 := ⟨g33_b, sumsW, _, _, sumsW_ok, g33_run⟩

end Go.Proofs.YtggoagemdhflfaaGreat.sockRoom

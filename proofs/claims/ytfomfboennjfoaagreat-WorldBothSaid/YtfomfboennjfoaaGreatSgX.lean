/-
  Stages of WorldBoth: two calls more of the longest rows.
-/
import Derived.Test.YtfomfboennjfoaaGreatSgMS
set_option linter.unusedVariables false
set_option linter.unusedSimpArgs false
namespace Go.Proofs.YtfomfboennjfoaaGreat.worldBoth
open Go

noncomputable section
def h3a3a_0 : List (Nat × AObj) := j.d0 ++ []
def d3a3a_0 : List (Nat × AObj) := [(6, (oS 182 [(.ptr 46 0), (.ptr 86 0), (nI 40), (nW 2013903098), nT, (.sl 3945 0 2 none)])), (11, o308), (243, o309), (244, o4), (245, o5), (763, .dead), (3043, (oS 3 [(nI 50)])), (3488, o157), (3930, o404), (3938, o10), (3940, (oR 3 [(nI 0)])), (3945, (oR 185 [(nI 1), (.ssl 3488 (nL 0) (nL 0) (nL 1514) none), (nI 1), (.ssl 3930 (nL 0) (nL 0) (nL 1514) none)]))]
def l3a3a_0 : Leaf := ⟨(.tup [(.sl 3938 0 1 none), (.sl 3940 0 1 none), (nI 0)]), d3a3a_0, 3946, []⟩
def g3a3a_0 : Stage := ⟨3015, [(.ptr 6 0), (.agg [(nI 1), (nI 0), (nI 6), (nI 3), (nI 0), (nW 0), (nI 0), (nI 0), (.fsl 32 (nL 0) (nL 0) (.var 32)), (nI 0), (nI 0), (nI 0), (nI 0), (nU 0)])], h3a3a_0, [[]], rg3a3a, 6, pm3a3a, [l3a3a_0], .done l3a3a_0.v l3a3a_0.st⟩
def h3a3a_1 : List (Nat × AObj) := h3a3a_0 ++ d3a3a_0
def d3a3a_1 : List (Nat × AObj) := [(6, (oS 182 [(.ptr 46 0), (.ptr 86 0), (nI 40), (nW 500965035), nT, (.sl 4880 0 4 none)])), (51, o100), (1146, o356), (1147, o7), (1148, o8), (3945, .dead), (3977, (oS 3 [(nI 50)])), (4422, o50), (4864, o133), (4872, o12), (4874, (oR 3 [(nI 1)])), (4880, (oR 185 [(nI 1), (.ssl 3488 (nL 0) (nL 0) (nL 1514) none), (nI 1), (.ssl 3930 (nL 0) (nL 0) (nL 1514) none), (nI 0), (.ssl 4422 (nL 0) (nL 0) (nL 1514) none), (nI 0), (.ssl 4864 (nL 0) (nL 0) (nL 1514) none)]))]
def l3a3a_1 : Leaf := ⟨(.tup [(.sl 4872 0 1 none), (.sl 4874 0 1 none), (nI 0)]), d3a3a_1, 4881, []⟩
def g3a3a_1 : Stage := ⟨3949, [(.ptr 6 0), (.agg [(nI 1), (nI 1), (nI 6), (nI 3), (nI 1), (nW 0), (nI 0), (nI 0), (.fsl 33 (nL 0) (nL 0) (.var 33)), (nI 0), (nI 0), (nI 0), (nI 0), (nU 0)])], h3a3a_1, [[]], rg3a3a, 6, pm3a3a, [l3a3a_1], .done l3a3a_1.v l3a3a_1.st⟩
end
set_option maxRecDepth 1000000 in
theorem g3a3a_0_ok : StageOk Tryz.prog plans 55 g3a3a_0 := stage_mk sumsQ_ok (by kernel_rfl) (by kernel_rfl)
set_option maxRecDepth 1000000 in
theorem g3a3a_1_ok : StageOk Tryz.prog plans 55 g3a3a_1 := stage_mk sumsQ_ok (by kernel_rfl) (by kernel_rfl)
noncomputable def sumsX : Sums := sumOr (sumStg 55 [g3a3a_0, g3a3a_1]) (sums3a3a)
theorem sumsX_ok : SumsOk Tryz.prog sumsX := sumOr_ok (sumStg_ok follows_mixed plans_ok (List.forall_mem_cons.2 ⟨g3a3a_0_ok, List.forall_mem_cons.2 ⟨g3a3a_1_ok, fun g hg => by cases hg⟩⟩)) sums3a3a_ok

end Go.Proofs.YtfomfboennjfoaaGreat.worldBoth

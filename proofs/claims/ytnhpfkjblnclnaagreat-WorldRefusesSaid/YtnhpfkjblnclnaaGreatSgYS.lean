/-
  Stages of WorldRefuses: what is known ahead by them.
-/
import Derived.Test.YtnhpfkjblnclnaaGreatSgYR0
import Derived.Test.YtnhpfkjblnclnaaGreatSgYR1
import Derived.Test.YtnhpfkjblnclnaaGreatSgYR2
import Derived.Test.YtnhpfkjblnclnaaGreatSgTS
set_option linter.unusedVariables false
set_option linter.unusedSimpArgs false
namespace Go.Proofs.YtnhpfkjblnclnaaGreat.worldRefuses.t
open Go

noncomputable def stgsY : List Stage := [y0, y1, y2, y3, y4, y5, y6, y7, y8, y9, y10, y11, y12, y13, y14, y15, y16, y17, y18, y19, y20, y21, y22, y23, y24, y25, y26, y27, y28, y29, y30]
theorem stgsY_ok : ∀ g ∈ stgsY, StageOk Tryz.prog plans 70 g := by
  intro g hg
  simp only [stgsY, List.mem_cons, List.not_mem_nil, or_false] at hg
  rcases hg with rfl | rfl | rfl | rfl | rfl | rfl | rfl | rfl | rfl | rfl | rfl | rfl | rfl | rfl | rfl | rfl | rfl | rfl | rfl | rfl | rfl | rfl | rfl | rfl | rfl | rfl | rfl | rfl | rfl | rfl | rfl
  · exact y0_ok
  · exact y1_ok
  · exact y2_ok
  · exact y3_ok
  · exact y4_ok
  · exact y5_ok
  · exact y6_ok
  · exact y7_ok
  · exact y8_ok
  · exact y9_ok
  · exact y10_ok
  · exact y11_ok
  · exact y12_ok
  · exact y13_ok
  · exact y14_ok
  · exact y15_ok
  · exact y16_ok
  · exact y17_ok
  · exact y18_ok
  · exact y19_ok
  · exact y20_ok
  · exact y21_ok
  · exact y22_ok
  · exact y23_ok
  · exact y24_ok
  · exact y25_ok
  · exact y26_ok
  · exact y27_ok
  · exact y28_ok
  · exact y29_ok
  · exact y30_ok
noncomputable def sumsY : Sums := sumOr (sumStg 70 stgsY) sumsG
theorem sumsY_ok : SumsOk Tryz.prog sumsY := sumOr_ok (sumStg_ok follows_mixed plans_ok stgsY_ok) sumsG_ok

end Go.Proofs.YtnhpfkjblnclnaaGreat.worldRefuses.t

/-
  What is known ahead of a run of one or two hosts with rows of bytes.
-/
import Derived.Test.YtjjfmhaakickcaaGreatCg
import Derived.Test.YtjjfmhaakickcaaGreatSxwn
set_option linter.unusedVariables false
namespace Go.Proofs.YtjjfmhaakickcaaGreat
open Go

noncomputable def sumsN : Sums := sumOr sumPartR sumsH
theorem sumsN_ok : SumsOk Tryz.prog sumsN := sumOr_ok sumPartR_ok sumsH_ok
end Go.Proofs.YtjjfmhaakickcaaGreat

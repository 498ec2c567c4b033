/-
  What is known ahead of a run of one or two hosts with rows of bytes.
-/
import Derived.Test.YtfomfboennjfoaaGreatCg
import Derived.Test.YtfomfboennjfoaaGreatSxwn
set_option linter.unusedVariables false
namespace Go.Proofs.YtfomfboennjfoaaGreat
open Go

noncomputable def sumsN : Sums := sumOr sumPartR (sumOr (sumSame 18) sumsH)
theorem sumsN_ok : SumsOk Tryz.prog sumsN := sumOr_ok sumPartR_ok (sumOr_ok sumSame_ok sumsH_ok)
end Go.Proofs.YtfomfboennjfoaaGreat

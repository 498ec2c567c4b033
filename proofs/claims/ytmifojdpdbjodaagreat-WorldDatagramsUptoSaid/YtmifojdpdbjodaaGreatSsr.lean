/-
  What is known ahead of a run of worlds with rows of bytes: the law's own comparison, sorted keys.
-/
import Derived.Test.YtmifojdpdbjodaaGreatCg
import Derived.Test.YtmifojdpdbjodaaGreatSson
set_option linter.unusedVariables false
set_option linter.unusedSimpArgs false
namespace Go.Proofs.YtmifojdpdbjodaaGreat
open Go Go.RowKit

noncomputable def sumsQ : Sums := sumOr sumPartR (sumOr (sumSame 9) sumsW)
theorem sumsQ_ok : SumsOk Tryz.prog sumsQ := sumOr_ok sumPartR_ok (sumOr_ok sumSame_ok sumsW_ok)
end Go.Proofs.YtmifojdpdbjodaaGreat

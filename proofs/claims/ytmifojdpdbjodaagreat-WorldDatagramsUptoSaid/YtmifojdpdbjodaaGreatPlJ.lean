/-
  Checksums that are nought.
-/
import Derived.Test.YtmifojdpdbjodaaGreatPlsOk
import Derived.Test.YtmifojdpdbjodaaGreatCe
set_option linter.unusedVariables false
set_option linter.unusedSimpArgs false
namespace Go.Proofs.YtmifojdpdbjodaaGreat
open Go

noncomputable def plansJ : Plans := { plans with jn := [(291, 5)] }
theorem plansJ_ok : PlansOk Tryz.prog plansJ := plansOk_ac plans_ok rfl (fun a ha => by cases ha)

end Go.Proofs.YtmifojdpdbjodaaGreat

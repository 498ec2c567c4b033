/-
  Checksums that are nought.
-/
import Derived.Test.YtjjfmhaakickcaaGreatPlsOk
import Derived.Test.YtjjfmhaakickcaaGreatCe
set_option linter.unusedVariables false
set_option linter.unusedSimpArgs false
namespace Go.Proofs.YtjjfmhaakickcaaGreat
open Go

noncomputable def plansJ : Plans := { plans with jn := [(21, 5)] }
theorem plansJ_ok : PlansOk Tryz.prog plansJ := plansOk_ac plans_ok rfl (fun a ha => by cases ha)

end Go.Proofs.YtjjfmhaakickcaaGreat

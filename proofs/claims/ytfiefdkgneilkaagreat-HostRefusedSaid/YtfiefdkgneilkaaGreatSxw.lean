/-
  What is known ahead of the hosts' runs.
-/
import Derived.Test.YtfiefdkgneilkaaGreatSxu
import Derived.Test.YtfiefdkgneilkaaGreatSxx
import Derived.Test.YtfiefdkgneilkaaGreatProg
set_option linter.unusedVariables false
set_option linter.unusedSimpArgs false
namespace Go.Proofs.YtfiefdkgneilkaaGreat
open Go

noncomputable def sumsH : Sums := sumOr sumsB (sumOr (sumOvl 317) (sumOr (sumOvl 376) (sumOr (sumLoad 309) (sumCas 428))))
theorem sumsH_ok : SumsOk Tryz.prog sumsH :=
  sumOr_ok sumsB_ok (sumOr_ok
    (sumOvl_ok (fn := Tryz.f317) Tryz.func317 (by kernel_rfl) (by kernel_rfl) (by kernel_rfl) (tS := 188) (tR := 4) (e := 400) (sz := 3) (by kernel_rfl) (by kernel_rfl) (by kernel_rfl))
    (sumOr_ok
    (sumOvl_ok (fn := Tryz.f376) Tryz.func376 (by kernel_rfl) (by kernel_rfl) (by kernel_rfl) (tS := 180) (tR := 4) (e := 371) (sz := 4) (by kernel_rfl) (by kernel_rfl) (by kernel_rfl))
    (sumOr_ok
    (sumLoad_ok (fn := Tryz.f309) Tryz.func309 (by kernel_rfl) (by kernel_rfl) (by kernel_rfl) (by kernel_rfl))
    (sumCas_ok (fn := Tryz.f428) Tryz.func428 (by kernel_rfl) (by kernel_rfl) (by kernel_rfl) (by kernel_rfl)))))
end Go.Proofs.YtfiefdkgneilkaaGreat

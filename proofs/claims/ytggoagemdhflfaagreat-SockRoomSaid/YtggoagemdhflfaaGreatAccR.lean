/-
  Rounds that leave all as it is.
-/
import Derived.Test.YtggoagemdhflfaaGreatRs
import Derived.Test.YtggoagemdhflfaaGreatPls
set_option linter.unusedVariables false
set_option linter.unusedSimpArgs false
namespace Go.Proofs.YtggoagemdhflfaaGreat
open Go

def accR1 : Acc := { f := 6, slot := 7, e0 := .lit (.ofNat 64), hi := .var 0, K := 2, keep := [0, 1, 4, 5, 6], pcs := [((.cmp .lss (.var 2) (.var 0)), true)], rg := [((.ofNat 65), (.ofNat 100)), ((.ofNat 0), (.ofNat 63)), ((.ofNat 64), (.ofNat 99))] }
noncomputable def plansR1 : Plans := { pl := plans.pl, ac := [accR1] }
def accR2 : Acc := { f := 6, slot := 7, e0 := .lit (.ofNat 64), hi := .var 0, K := 2, keep := [0, 1, 4, 5, 6], pcs := [((.cmp .lss (.var 2) (.var 0)), true)], rg := [((.ofNat 65), (.ofNat 100)), ((.negSucc 9223372036854775807), (.negSucc 0)), ((.ofNat 64), (.ofNat 99))] }
noncomputable def plansR2 : Plans := { pl := plans.pl, ac := [accR2] }
def accR3 : Acc := { f := 6, slot := 7, e0 := .lit (.ofNat 64), hi := .var 0, K := 2, keep := [0, 1, 4, 5, 6], pcs := [((.cmp .lss (.var 2) (.var 0)), true)], rg := [((.ofNat 65), (.ofNat 100)), ((.ofNat 64), (.ofNat 9223372036854775807)), ((.ofNat 64), (.ofNat 99))] }
noncomputable def plansR3 : Plans := { pl := plans.pl, ac := [accR3] }

end Go.Proofs.YtggoagemdhflfaaGreat

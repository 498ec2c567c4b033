/-
  Rounds that leave all as it is.
-/
import Derived.Test.YtlmpmmcefdhgmaaGreatRs
import Derived.Test.YtlmpmmcefdhgmaaGreatPls
set_option linter.unusedVariables false
set_option linter.unusedSimpArgs false
namespace Go.Proofs.YtlmpmmcefdhgmaaGreat
open Go

def accM1 : Acc := { f := 3, slot := 11, e0 := .lit (.ofNat 1), hi := .var 0, K := 3, keep := [0, 1, 2, 6, 7, 10], pcs := [((.cmp .lss (.var 3) (.var 0)), true)], rg := [((.ofNat 2), (.ofNat 300)), ((.ofNat 1), (.ofNat 1)), ((.ofNat 1), (.ofNat 65535)), ((.ofNat 1), (.ofNat 299))] }
noncomputable def plansM1 : Plans := { pl := plans.pl, ac := [accM1] }
def accM2 : Acc := { f := 3, slot := 11, e0 := .lit (.ofNat 2), hi := .var 0, K := 3, keep := [0, 1, 2, 6, 7, 10], pcs := [((.cmp .lss (.var 3) (.var 0)), true)], rg := [((.ofNat 3), (.ofNat 300)), ((.ofNat 2), (.ofNat 2)), ((.ofNat 1), (.ofNat 65535)), ((.ofNat 2), (.ofNat 299))] }
noncomputable def plansM2 : Plans := { pl := plans.pl, ac := [accM2] }
def accM3 : Acc := { f := 3, slot := 11, e0 := .lit (.ofNat 3), hi := .var 0, K := 3, keep := [0, 1, 2, 6, 7, 10], pcs := [((.cmp .lss (.var 3) (.var 0)), true)], rg := [((.ofNat 4), (.ofNat 300)), ((.ofNat 3), (.ofNat 3)), ((.ofNat 1), (.ofNat 65535)), ((.ofNat 3), (.ofNat 299))] }
noncomputable def plansM3 : Plans := { pl := plans.pl, ac := [accM3] }
def accM4 : Acc := { f := 3, slot := 11, e0 := .lit (.ofNat 4), hi := .var 0, K := 3, keep := [0, 1, 2, 6, 7, 10], pcs := [((.cmp .lss (.var 3) (.var 0)), true)], rg := [((.ofNat 5), (.ofNat 300)), ((.ofNat 4), (.ofNat 4)), ((.ofNat 1), (.ofNat 65535)), ((.ofNat 4), (.ofNat 299))] }
noncomputable def plansM4 : Plans := { pl := plans.pl, ac := [accM4] }
def accM5 : Acc := { f := 3, slot := 11, e0 := .lit (.ofNat 5), hi := .var 0, K := 3, keep := [0, 1, 2, 6, 7, 10], pcs := [((.cmp .lss (.var 3) (.var 0)), true)], rg := [((.ofNat 6), (.ofNat 300)), ((.ofNat 5), (.ofNat 5)), ((.ofNat 1), (.ofNat 65535)), ((.ofNat 5), (.ofNat 299))] }
noncomputable def plansM5 : Plans := { pl := plans.pl, ac := [accM5] }
def accM6 : Acc := { f := 3, slot := 11, e0 := .lit (.ofNat 6), hi := .var 0, K := 3, keep := [0, 1, 2, 6, 7, 10], pcs := [((.cmp .lss (.var 3) (.var 0)), true)], rg := [((.ofNat 7), (.ofNat 300)), ((.ofNat 6), (.ofNat 6)), ((.ofNat 1), (.ofNat 65535)), ((.ofNat 6), (.ofNat 299))] }
noncomputable def plansM6 : Plans := { pl := plans.pl, ac := [accM6] }
def accM7 : Acc := { f := 3, slot := 11, e0 := .lit (.ofNat 7), hi := .var 0, K := 3, keep := [0, 1, 2, 6, 7, 10], pcs := [((.cmp .lss (.var 3) (.var 0)), true)], rg := [((.ofNat 8), (.ofNat 300)), ((.ofNat 7), (.ofNat 7)), ((.ofNat 1), (.ofNat 65535)), ((.ofNat 7), (.ofNat 299))] }
noncomputable def plansM7 : Plans := { pl := plans.pl, ac := [accM7] }
def accM8 : Acc := { f := 3, slot := 11, e0 := .lit (.ofNat 8), hi := .var 0, K := 3, keep := [0, 1, 2, 6, 7, 10], pcs := [((.cmp .lss (.var 3) (.var 0)), true)], rg := [((.ofNat 9), (.ofNat 300)), ((.ofNat 8), (.ofNat 8)), ((.ofNat 1), (.ofNat 65535)), ((.ofNat 8), (.ofNat 299))] }
noncomputable def plansM8 : Plans := { pl := plans.pl, ac := [accM8] }
def accM9 : Acc := { f := 3, slot := 11, e0 := .lit (.ofNat 9), hi := .var 0, K := 3, keep := [0, 1, 2, 6, 7, 10], pcs := [((.cmp .lss (.var 3) (.var 0)), true)], rg := [((.ofNat 10), (.ofNat 300)), ((.ofNat 9), (.ofNat 9)), ((.ofNat 1), (.ofNat 65535)), ((.ofNat 9), (.ofNat 299))] }
noncomputable def plansM9 : Plans := { pl := plans.pl, ac := [accM9] }
def accM10 : Acc := { f := 3, slot := 11, e0 := .lit (.ofNat 10), hi := .var 0, K := 3, keep := [0, 1, 2, 6, 7, 10], pcs := [((.cmp .lss (.var 3) (.var 0)), true)], rg := [((.ofNat 11), (.ofNat 300)), ((.ofNat 10), (.ofNat 10)), ((.ofNat 1), (.ofNat 65535)), ((.ofNat 10), (.ofNat 299))] }
noncomputable def plansM10 : Plans := { pl := plans.pl, ac := [accM10] }
def accM11 : Acc := { f := 3, slot := 11, e0 := .lit (.ofNat 11), hi := .var 0, K := 3, keep := [0, 1, 2, 6, 7, 10], pcs := [((.cmp .lss (.var 3) (.var 0)), true)], rg := [((.ofNat 12), (.ofNat 300)), ((.ofNat 11), (.ofNat 11)), ((.ofNat 1), (.ofNat 65535)), ((.ofNat 11), (.ofNat 299))] }
noncomputable def plansM11 : Plans := { pl := plans.pl, ac := [accM11] }
def accM12 : Acc := { f := 3, slot := 11, e0 := .lit (.ofNat 12), hi := .var 0, K := 3, keep := [0, 1, 2, 6, 7, 10], pcs := [((.cmp .lss (.var 3) (.var 0)), true)], rg := [((.ofNat 13), (.ofNat 300)), ((.ofNat 12), (.ofNat 12)), ((.ofNat 1), (.ofNat 65535)), ((.ofNat 12), (.ofNat 299))] }
noncomputable def plansM12 : Plans := { pl := plans.pl, ac := [accM12] }
def accM13 : Acc := { f := 3, slot := 11, e0 := .lit (.ofNat 13), hi := .var 0, K := 3, keep := [0, 1, 2, 6, 7, 10], pcs := [((.cmp .lss (.var 3) (.var 0)), true)], rg := [((.ofNat 14), (.ofNat 300)), ((.ofNat 13), (.ofNat 13)), ((.ofNat 1), (.ofNat 65535)), ((.ofNat 13), (.ofNat 299))] }
noncomputable def plansM13 : Plans := { pl := plans.pl, ac := [accM13] }
def accM14 : Acc := { f := 3, slot := 11, e0 := .lit (.ofNat 14), hi := .var 0, K := 3, keep := [0, 1, 2, 6, 7, 10], pcs := [((.cmp .lss (.var 3) (.var 0)), true)], rg := [((.ofNat 15), (.ofNat 300)), ((.ofNat 14), (.ofNat 14)), ((.ofNat 1), (.ofNat 65535)), ((.ofNat 14), (.ofNat 299))] }
noncomputable def plansM14 : Plans := { pl := plans.pl, ac := [accM14] }
def accM15 : Acc := { f := 3, slot := 11, e0 := .lit (.ofNat 15), hi := .var 0, K := 3, keep := [0, 1, 2, 6, 7, 10], pcs := [((.cmp .lss (.var 3) (.var 0)), true)], rg := [((.ofNat 16), (.ofNat 300)), ((.ofNat 15), (.ofNat 15)), ((.ofNat 1), (.ofNat 65535)), ((.ofNat 15), (.ofNat 299))] }
noncomputable def plansM15 : Plans := { pl := plans.pl, ac := [accM15] }
def accM16 : Acc := { f := 3, slot := 11, e0 := .lit (.ofNat 16), hi := .var 0, K := 3, keep := [0, 1, 2, 6, 7, 10], pcs := [((.cmp .lss (.var 3) (.var 0)), true)], rg := [((.ofNat 17), (.ofNat 300)), ((.ofNat 16), (.ofNat 16)), ((.ofNat 1), (.ofNat 65535)), ((.ofNat 16), (.ofNat 299))] }
noncomputable def plansM16 : Plans := { pl := plans.pl, ac := [accM16] }
def accM17 : Acc := { f := 3, slot := 11, e0 := .lit (.ofNat 17), hi := .var 0, K := 3, keep := [0, 1, 2, 6, 7, 10], pcs := [((.cmp .lss (.var 3) (.var 0)), true)], rg := [((.ofNat 18), (.ofNat 300)), ((.ofNat 17), (.ofNat 17)), ((.ofNat 1), (.ofNat 65535)), ((.ofNat 17), (.ofNat 299))] }
noncomputable def plansM17 : Plans := { pl := plans.pl, ac := [accM17] }
def accM18 : Acc := { f := 3, slot := 11, e0 := .lit (.ofNat 18), hi := .var 0, K := 3, keep := [0, 1, 2, 6, 7, 10], pcs := [((.cmp .lss (.var 3) (.var 0)), true)], rg := [((.ofNat 19), (.ofNat 300)), ((.ofNat 18), (.ofNat 18)), ((.ofNat 1), (.ofNat 65535)), ((.ofNat 18), (.ofNat 299))] }
noncomputable def plansM18 : Plans := { pl := plans.pl, ac := [accM18] }
def accM19 : Acc := { f := 3, slot := 11, e0 := .lit (.ofNat 19), hi := .var 0, K := 3, keep := [0, 1, 2, 6, 7, 10], pcs := [((.cmp .lss (.var 3) (.var 0)), true)], rg := [((.ofNat 20), (.ofNat 300)), ((.ofNat 19), (.ofNat 19)), ((.ofNat 1), (.ofNat 65535)), ((.ofNat 19), (.ofNat 299))] }
noncomputable def plansM19 : Plans := { pl := plans.pl, ac := [accM19] }
def accM20 : Acc := { f := 3, slot := 11, e0 := .lit (.ofNat 20), hi := .var 0, K := 3, keep := [0, 1, 2, 6, 7, 10], pcs := [((.cmp .lss (.var 3) (.var 0)), true)], rg := [((.ofNat 21), (.ofNat 300)), ((.ofNat 20), (.ofNat 20)), ((.ofNat 1), (.ofNat 65535)), ((.ofNat 20), (.ofNat 299))] }
noncomputable def plansM20 : Plans := { pl := plans.pl, ac := [accM20] }
def accM21 : Acc := { f := 3, slot := 11, e0 := .lit (.ofNat 21), hi := .var 0, K := 3, keep := [0, 1, 2, 6, 7, 10], pcs := [((.cmp .lss (.var 3) (.var 0)), true)], rg := [((.ofNat 22), (.ofNat 300)), ((.ofNat 21), (.ofNat 21)), ((.ofNat 1), (.ofNat 65535)), ((.ofNat 21), (.ofNat 299))] }
noncomputable def plansM21 : Plans := { pl := plans.pl, ac := [accM21] }
def accM22 : Acc := { f := 3, slot := 11, e0 := .lit (.ofNat 22), hi := .var 0, K := 3, keep := [0, 1, 2, 6, 7, 10], pcs := [((.cmp .lss (.var 3) (.var 0)), true)], rg := [((.ofNat 23), (.ofNat 300)), ((.ofNat 22), (.ofNat 22)), ((.ofNat 1), (.ofNat 65535)), ((.ofNat 22), (.ofNat 299))] }
noncomputable def plansM22 : Plans := { pl := plans.pl, ac := [accM22] }
def accM23 : Acc := { f := 3, slot := 11, e0 := .lit (.ofNat 23), hi := .var 0, K := 3, keep := [0, 1, 2, 6, 7, 10], pcs := [((.cmp .lss (.var 3) (.var 0)), true)], rg := [((.ofNat 24), (.ofNat 300)), ((.ofNat 23), (.ofNat 23)), ((.ofNat 1), (.ofNat 65535)), ((.ofNat 23), (.ofNat 299))] }
noncomputable def plansM23 : Plans := { pl := plans.pl, ac := [accM23] }
def accM24 : Acc := { f := 3, slot := 11, e0 := .lit (.ofNat 24), hi := .var 0, K := 3, keep := [0, 1, 2, 6, 7, 10], pcs := [((.cmp .lss (.var 3) (.var 0)), true)], rg := [((.ofNat 25), (.ofNat 300)), ((.ofNat 24), (.ofNat 24)), ((.ofNat 1), (.ofNat 65535)), ((.ofNat 24), (.ofNat 299))] }
noncomputable def plansM24 : Plans := { pl := plans.pl, ac := [accM24] }
def accM25 : Acc := { f := 3, slot := 11, e0 := .lit (.ofNat 25), hi := .var 0, K := 3, keep := [0, 1, 2, 6, 7, 10], pcs := [((.cmp .lss (.var 3) (.var 0)), true)], rg := [((.ofNat 26), (.ofNat 300)), ((.ofNat 25), (.ofNat 25)), ((.ofNat 1), (.ofNat 65535)), ((.ofNat 25), (.ofNat 299))] }
noncomputable def plansM25 : Plans := { pl := plans.pl, ac := [accM25] }
def accM26 : Acc := { f := 3, slot := 11, e0 := .lit (.ofNat 26), hi := .var 0, K := 3, keep := [0, 1, 2, 6, 7, 10], pcs := [((.cmp .lss (.var 3) (.var 0)), true)], rg := [((.ofNat 27), (.ofNat 300)), ((.ofNat 26), (.ofNat 26)), ((.ofNat 1), (.ofNat 65535)), ((.ofNat 26), (.ofNat 299))] }
noncomputable def plansM26 : Plans := { pl := plans.pl, ac := [accM26] }
def accM27 : Acc := { f := 3, slot := 11, e0 := .lit (.ofNat 27), hi := .var 0, K := 3, keep := [0, 1, 2, 6, 7, 10], pcs := [((.cmp .lss (.var 3) (.var 0)), true)], rg := [((.ofNat 28), (.ofNat 300)), ((.ofNat 27), (.ofNat 27)), ((.ofNat 1), (.ofNat 65535)), ((.ofNat 27), (.ofNat 299))] }
noncomputable def plansM27 : Plans := { pl := plans.pl, ac := [accM27] }
def accM28 : Acc := { f := 3, slot := 11, e0 := .lit (.ofNat 28), hi := .var 0, K := 3, keep := [0, 1, 2, 6, 7, 10], pcs := [((.cmp .lss (.var 3) (.var 0)), true)], rg := [((.ofNat 29), (.ofNat 300)), ((.ofNat 28), (.ofNat 28)), ((.ofNat 1), (.ofNat 65535)), ((.ofNat 28), (.ofNat 299))] }
noncomputable def plansM28 : Plans := { pl := plans.pl, ac := [accM28] }
def accM29 : Acc := { f := 3, slot := 11, e0 := .lit (.ofNat 29), hi := .var 0, K := 3, keep := [0, 1, 2, 6, 7, 10], pcs := [((.cmp .lss (.var 3) (.var 0)), true)], rg := [((.ofNat 30), (.ofNat 300)), ((.ofNat 29), (.ofNat 29)), ((.ofNat 1), (.ofNat 65535)), ((.ofNat 29), (.ofNat 299))] }
noncomputable def plansM29 : Plans := { pl := plans.pl, ac := [accM29] }
def accM30 : Acc := { f := 3, slot := 11, e0 := .lit (.ofNat 30), hi := .var 0, K := 3, keep := [0, 1, 2, 6, 7, 10], pcs := [((.cmp .lss (.var 3) (.var 0)), true)], rg := [((.ofNat 31), (.ofNat 300)), ((.ofNat 30), (.ofNat 30)), ((.ofNat 1), (.ofNat 65535)), ((.ofNat 30), (.ofNat 299))] }
noncomputable def plansM30 : Plans := { pl := plans.pl, ac := [accM30] }
def accM31 : Acc := { f := 3, slot := 11, e0 := .lit (.ofNat 31), hi := .var 0, K := 3, keep := [0, 1, 2, 6, 7, 10], pcs := [((.cmp .lss (.var 3) (.var 0)), true)], rg := [((.ofNat 32), (.ofNat 300)), ((.ofNat 31), (.ofNat 31)), ((.ofNat 1), (.ofNat 65535)), ((.ofNat 31), (.ofNat 299))] }
noncomputable def plansM31 : Plans := { pl := plans.pl, ac := [accM31] }
def accM32 : Acc := { f := 3, slot := 11, e0 := .lit (.ofNat 32), hi := .var 0, K := 3, keep := [0, 1, 2, 6, 7, 10], pcs := [((.cmp .lss (.var 3) (.var 0)), true)], rg := [((.ofNat 33), (.ofNat 300)), ((.ofNat 32), (.ofNat 32)), ((.ofNat 1), (.ofNat 65535)), ((.ofNat 32), (.ofNat 299))] }
noncomputable def plansM32 : Plans := { pl := plans.pl, ac := [accM32] }

end Go.Proofs.YtlmpmmcefdhgmaaGreat

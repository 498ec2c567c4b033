/-
  ConnKeeps: the rounds in which nothing is done.
-/
import Derived.Test.YtffadpfkdphhgaaRs
import Derived.Test.YtffadpfkdphhgaaPls
set_option linter.unusedVariables false
set_option linter.unusedSimpArgs false
namespace Go.Proofs.Ytffadpfkdphhgaa
open Go

abbrev E1 : SI := .bin .add .i64 (.var 0) (.lit (.ofNat 0))
abbrev E2 : SI := .bin .add .i64 E1 (.var 0)
abbrev E3 : SI := .bin .add .i64 E2 (.var 0)
abbrev E4 : SI := .bin .add .i64 E3 (.var 0)
abbrev E5 : SI := .bin .add .i64 E4 (.var 0)
abbrev E6 : SI := .bin .add .i64 E5 (.var 0)
abbrev E7 : SI := .bin .add .i64 E6 (.var 0)
abbrev E8 : SI := .bin .add .i64 E7 (.var 0)
abbrev E9 : SI := .bin .add .i64 E8 (.var 0)
abbrev EL : SI := .bin .mul .i64 (.var 0) (.lit (.ofNat 10))
def acc0 : Acc := { f := 5, slot := 9, e0 := (.lit (.ofNat 1)), hi := E1, K := 1, keep := [0, 4, 7, 8], pcs := [((.cmp .lss (.var 1) E1), true), ((.cmp .lss EL (.var 1)), false)], rg := [((.ofNat 2), (.ofNat 1000)), ((.ofNat 1), (.ofNat 10000))] }
def acc1 : Acc := { f := 5, slot := 9, e0 := (.bin .add .i64 (.var 0) (.lit (.ofNat 1))), hi := E2, K := 1, keep := [0, 4, 7, 8], pcs := [((.cmp .lss (.var 1) E2), true), ((.cmp .lss EL (.var 1)), false)], rg := [((.ofNat 2), (.ofNat 1000)), ((.ofNat 1), (.ofNat 10000))] }
def acc2 : Acc := { f := 5, slot := 9, e0 := (.bin .add .i64 E2 (.lit (.ofNat 1))), hi := E3, K := 1, keep := [0, 4, 7, 8], pcs := [((.cmp .lss (.var 1) E3), true), ((.cmp .lss EL (.var 1)), false)], rg := [((.ofNat 2), (.ofNat 1000)), ((.ofNat 1), (.ofNat 10000))] }
def acc3 : Acc := { f := 5, slot := 9, e0 := (.bin .add .i64 E3 (.lit (.ofNat 1))), hi := E4, K := 1, keep := [0, 4, 7, 8], pcs := [((.cmp .lss (.var 1) E4), true), ((.cmp .lss EL (.var 1)), false)], rg := [((.ofNat 2), (.ofNat 1000)), ((.ofNat 1), (.ofNat 10000))] }
def acc4 : Acc := { f := 5, slot := 9, e0 := (.bin .add .i64 E4 (.lit (.ofNat 1))), hi := E5, K := 1, keep := [0, 4, 7, 8], pcs := [((.cmp .lss (.var 1) E5), true), ((.cmp .lss EL (.var 1)), false)], rg := [((.ofNat 2), (.ofNat 1000)), ((.ofNat 1), (.ofNat 10000))] }
def acc5 : Acc := { f := 5, slot := 9, e0 := (.bin .add .i64 E5 (.lit (.ofNat 1))), hi := E6, K := 1, keep := [0, 4, 7, 8], pcs := [((.cmp .lss (.var 1) E6), true), ((.cmp .lss EL (.var 1)), false)], rg := [((.ofNat 2), (.ofNat 1000)), ((.ofNat 1), (.ofNat 10000))] }
def acc6 : Acc := { f := 5, slot := 9, e0 := (.bin .add .i64 E6 (.lit (.ofNat 1))), hi := E7, K := 1, keep := [0, 4, 7, 8], pcs := [((.cmp .lss (.var 1) E7), true), ((.cmp .lss EL (.var 1)), false)], rg := [((.ofNat 2), (.ofNat 1000)), ((.ofNat 1), (.ofNat 10000))] }
def acc7 : Acc := { f := 5, slot := 9, e0 := (.bin .add .i64 E7 (.lit (.ofNat 1))), hi := E8, K := 1, keep := [0, 4, 7, 8], pcs := [((.cmp .lss (.var 1) E8), true), ((.cmp .lss EL (.var 1)), false)], rg := [((.ofNat 2), (.ofNat 1000)), ((.ofNat 1), (.ofNat 10000))] }
def acc8 : Acc := { f := 5, slot := 9, e0 := (.bin .add .i64 E8 (.lit (.ofNat 1))), hi := E9, K := 1, keep := [0, 4, 7, 8], pcs := [((.cmp .lss (.var 1) E9), true), ((.cmp .lss EL (.var 1)), false)], rg := [((.ofNat 2), (.ofNat 1000)), ((.ofNat 1), (.ofNat 10000))] }
def acc9 : Acc := { f := 5, slot := 9, e0 := (.bin .add .i64 E9 (.lit (.ofNat 1))), hi := (.bin .add .i64 EL (.lit (.ofNat 1))), K := 1, keep := [0, 4, 7, 8], pcs := [((.cmp .lss EL (.var 1)), false)], rg := [((.ofNat 2), (.ofNat 1000)), ((.ofNat 1), (.ofNat 10000))] }
noncomputable def plansK : Plans := { pl := plans.pl, ac := [acc0, acc1, acc2, acc3, acc4, acc5, acc6, acc7, acc8, acc9] }

end Go.Proofs.Ytffadpfkdphhgaa

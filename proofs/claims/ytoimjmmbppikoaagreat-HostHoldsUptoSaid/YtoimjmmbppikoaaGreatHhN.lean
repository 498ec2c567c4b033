/-
  HostHolds: where the first round begins.
-/
import Derived.Test.YtoimjmmbppikoaaGreatHhi
set_option linter.unusedVariables false
set_option linter.unusedSimpArgs false
namespace Go.Proofs.YtoimjmmbppikoaaGreat
open Go

noncomputable def rgI : List (Int × Int) := [((.ofNat 0), (.ofNat 300)), ((.ofNat 1), (.ofNat 65535)), ((.ofNat 0), (.ofNat 0)), ((.ofNat 0), (.ofNat 0)), ((.ofNat 0), (.ofNat 0)), ((.ofNat 0), (.ofNat 0)), ((.ofNat 0), (.ofNat 0)), ((.ofNat 0), (.ofNat 0)), ((.ofNat 0), (.ofNat 0)), ((.ofNat 0), (.ofNat 0)), ((.ofNat 0), (.ofNat 0)), ((.ofNat 0), (.ofNat 0)), ((.ofNat 0), (.ofNat 0)), ((.ofNat 0), (.ofNat 0)), ((.ofNat 0), (.ofNat 0)), ((.ofNat 0), (.ofNat 0)), ((.ofNat 0), (.ofNat 0)), ((.ofNat 0), (.ofNat 0)), ((.ofNat 0), (.ofNat 0)), ((.ofNat 0), (.ofNat 0)), ((.ofNat 0), (.ofNat 0)), ((.ofNat 0), (.ofNat 0)), ((.ofNat 0), (.ofNat 0)), ((.ofNat 0), (.ofNat 0)), ((.ofNat 0), (.ofNat 0)), ((.ofNat 0), (.ofNat 0)), ((.ofNat 0), (.ofNat 0)), ((.ofNat 0), (.ofNat 0)), ((.ofNat 0), (.ofNat 0)), ((.ofNat 0), (.ofNat 0)), ((.ofNat 0), (.ofNat 0)), ((.ofNat 0), (.ofNat 0))]
noncomputable def preR : R := evL ihM 3 (nat_lit 103) preL ⟨.nil, nat_lit 0, ⟨[(.cmp .lss (.lit (.ofNat 300)) (.var 304), false), (.cmp .leq (.lit (.ofNat (nat_lit 0))) (.var 304), true)], [[]], rgI⟩⟩ (tsOf (nat_lit 103) [.osl 300 304 303, .int .i64 (.var 1)]) (fun e s t => Ex.rec (motive := fun _ => R) (ihM 3 (nat_lit 103) ini s t (kap [(0, patP)])) (fun _ => .fail 904) (.fail 905) e)
noncomputable def esI : List AV := [nI 0, vI 1, nI 0, nI 1, nI 0, nI 1, nI 1, nI 0, nI 0, nI 0, nI 0, nI 1, nI 0, nI 10, nI 0, nI 0, nI 0, nI 0, nI 0, nI 0, nI 0, nI 0, nI 0, nI 0, nI 0, nI 0, nI 0, nI 0, nI 0, nI 0, nI 0, nI 0]
noncomputable def LLI : List (AV × List (SB × Bool)) := [(.tup (.int .i64 (.lit (.ofNat 0)) :: esI), [(.cmp .lss (.lit (.ofNat 300)) (.var 304), false), (.cmp .leq (.lit (.ofNat (nat_lit 0))) (.var 304), true)])]
theorem pre_ends : endsR preR [(.cmp .lss (.lit (.ofNat 300)) (.var 304), false), (.cmp .leq (.lit (.ofNat (nat_lit 0))) (.var 304), true)] = some LLI := by kernel_rfl
def PreOk (V : AV) (ρ : Nat → Int) : Prop := match V with
  | .tup (.int _ (.lit (.ofNat 0)) :: es) => Inv patP (newRho es ρ) 0 0
  | _ => False
theorem pre_inv (ρ : Nat → Int) (r1 : 1 ≤ ρ 1 ∧ ρ 1 ≤ 65535) : Inv patP (newRho esI ρ) 0 0 := by
  have n1 : newRho esI ρ 1 = ρ 1 := rfl
  have n3 : newRho esI ρ 3 = 1 := rfl
  have n4 : newRho esI ρ 4 = 0 := rfl
  have n5 : newRho esI ρ 5 = 1 := rfl
  have n6 : newRho esI ρ 6 = 1 := rfl
  have n7 : newRho esI ρ 7 = 0 := rfl
  have n8 : newRho esI ρ 8 = 0 := rfl
  have n9 : newRho esI ρ 9 = 0 := rfl
  have n10 : newRho esI ρ 10 = 0 := rfl
  have n11 : newRho esI ρ 11 = 1 := rfl
  have n12 : newRho esI ρ 12 = 0 := rfl
  have n13 : newRho esI ρ 13 = 10 := rfl
  have n14 : newRho esI ρ 14 = 0 := rfl
  refine ⟨rgOk_mk (ai zz (ai (bd 1 65535 n1 (by omega)) (ai zz (ai (bd 1 30101 n3 (by omega)) (ai (bd 0 300 n4 (by omega)) (ai (bd 1 301 n5 (by omega)) (ai (bd 0 400 n6 (by omega)) (ai (bd 0 300 n7 (by omega)) (ai (bd 0 300 n8 (by omega)) (ai (bd 0 300 n9 (by omega)) (ai (bd 0 300 n10 (by omega)) (ai (bd 1 301 n11 (by omega)) (ai (bd 0 300 n12 (by omega)) (ai (bd 0 10 n13 (by omega)) (ai (bd 0 30101 n14 (by omega)) (ai zz (ai zz (ai zz (ai zz (ai zz (ai zz (ai zz (ai zz (ai zz (ai zz (ai zz (ai zz (ai zz (ai zz (ai zz (ai zz (ai zz trivial)))))))))))))))))))))))))))))))), ?_⟩
  rw [n4, n5, n9, n10, n6, n7, n11, n8, n12, n3, n14, n13]
  omega
theorem pre_ok (ρ : Nat → Int) (r1 : 1 ≤ ρ 1 ∧ ρ 1 ≤ 65535) : ∀ {l : List (SB × Bool)} (V : AV), (V, l) ∈ LLI → PreOk V ρ := by
  intro l V h
  rcases List.mem_cons.1 h with h | h
  · cases h
    exact pre_inv ρ r1
  · cases h

end Go.Proofs.YtoimjmmbppikoaaGreat

/-
  The plans serve every region that draws its order. Printed by plans.py.
-/
import Derived.Test.YtlmpmmcefdhgmaaSxs
import Derived.Test.YtlmpmmcefdhgmaaProg
import Derived.Test.YtlmpmmcefdhgmaaPls
set_option linter.unusedVariables false
set_option linter.unusedSimpArgs false
namespace Go.Proofs.Ytlmpmmcefdhgmaa
open Go

theorem follows_mixed : Try.prog.follows .mixedOrders = true := by kernel_rfl
def bodyOk (pl : Plans) (f : FuncId) (fn : Func) : Bool := match fn.body with
  | some c => codeOk pl f c
  | none => true
set_option maxRecDepth 100000 in
theorem plan_ok3 : bodyOk plans 3 Try.f3 = true := by kernel_rfl
set_option maxRecDepth 100000 in
theorem plan_ok4 : bodyOk plans 4 Try.f4 = true := by kernel_rfl
set_option maxRecDepth 100000 in
theorem plan_ok6 : bodyOk plans 6 Try.f6 = true := by kernel_rfl
set_option maxRecDepth 100000 in
theorem plan_ok10 : bodyOk plans 10 Try.f10 = true := by kernel_rfl
set_option maxRecDepth 100000 in
theorem plan_ok11 : bodyOk plans 11 Try.f11 = true := by kernel_rfl
set_option maxRecDepth 100000 in
theorem plan_ok13 : bodyOk plans 13 Try.f13 = true := by kernel_rfl
set_option maxRecDepth 100000 in
theorem plan_ok14 : bodyOk plans 14 Try.f14 = true := by kernel_rfl
set_option maxRecDepth 100000 in
theorem plan_ok15 : bodyOk plans 15 Try.f15 = true := by kernel_rfl
set_option maxRecDepth 100000 in
theorem plan_ok17 : bodyOk plans 17 Try.f17 = true := by kernel_rfl
set_option maxRecDepth 100000 in
theorem plan_ok24 : bodyOk plans 24 Try.f24 = true := by kernel_rfl
set_option maxRecDepth 100000 in
theorem plan_ok25 : bodyOk plans 25 Try.f25 = true := by kernel_rfl
set_option maxRecDepth 100000 in
theorem plan_ok30 : bodyOk plans 30 Try.f30 = true := by kernel_rfl
set_option maxRecDepth 100000 in
theorem plan_ok38 : bodyOk plans 38 Try.f38 = true := by kernel_rfl
set_option maxRecDepth 100000 in
theorem plan_ok39 : bodyOk plans 39 Try.f39 = true := by kernel_rfl
set_option maxRecDepth 100000 in
theorem plan_ok40 : bodyOk plans 40 Try.f40 = true := by kernel_rfl
set_option maxRecDepth 100000 in
theorem plan_ok42 : bodyOk plans 42 Try.f42 = true := by kernel_rfl
set_option maxRecDepth 100000 in
theorem plan_ok43 : bodyOk plans 43 Try.f43 = true := by kernel_rfl
set_option maxRecDepth 100000 in
theorem plan_ok44 : bodyOk plans 44 Try.f44 = true := by kernel_rfl
set_option maxRecDepth 100000 in
theorem plan_ok45 : bodyOk plans 45 Try.f45 = true := by kernel_rfl
set_option maxRecDepth 100000 in
theorem plan_ok47 : bodyOk plans 47 Try.f47 = true := by kernel_rfl
set_option maxRecDepth 100000 in
theorem plan_ok48 : bodyOk plans 48 Try.f48 = true := by kernel_rfl
set_option maxRecDepth 100000 in
theorem plan_ok49 : bodyOk plans 49 Try.f49 = true := by kernel_rfl
set_option maxRecDepth 100000 in
theorem plan_ok51 : bodyOk plans 51 Try.f51 = true := by kernel_rfl
set_option maxRecDepth 100000 in
theorem plan_ok53 : bodyOk plans 53 Try.f53 = true := by kernel_rfl
set_option maxRecDepth 100000 in
theorem plan_ok54 : bodyOk plans 54 Try.f54 = true := by kernel_rfl
set_option maxRecDepth 100000 in
theorem plan_ok55 : bodyOk plans 55 Try.f55 = true := by kernel_rfl
set_option maxRecDepth 100000 in
theorem plan_ok56 : bodyOk plans 56 Try.f56 = true := by kernel_rfl
set_option maxRecDepth 100000 in
theorem plan_ok57 : bodyOk plans 57 Try.f57 = true := by kernel_rfl
set_option maxRecDepth 100000 in
theorem plan_ok58 : bodyOk plans 58 Try.f58 = true := by kernel_rfl
set_option maxRecDepth 100000 in
theorem plan_ok59 : bodyOk plans 59 Try.f59 = true := by kernel_rfl
set_option maxRecDepth 100000 in
theorem plan_ok67 : bodyOk plans 67 Try.f67 = true := by kernel_rfl
set_option maxRecDepth 100000 in
theorem plan_ok77 : bodyOk plans 77 Try.f77 = true := by kernel_rfl
set_option maxRecDepth 100000 in
theorem plan_ok78 : bodyOk plans 78 Try.f78 = true := by kernel_rfl
set_option maxRecDepth 100000 in
theorem plan_ok79 : bodyOk plans 79 Try.f79 = true := by kernel_rfl
set_option maxRecDepth 100000 in
theorem plan_ok81 : bodyOk plans 81 Try.f81 = true := by kernel_rfl
set_option maxRecDepth 100000 in
theorem plan_ok82 : bodyOk plans 82 Try.f82 = true := by kernel_rfl
set_option maxRecDepth 100000 in
theorem plan_ok83 : bodyOk plans 83 Try.f83 = true := by kernel_rfl
set_option maxRecDepth 100000 in
theorem plan_ok84 : bodyOk plans 84 Try.f84 = true := by kernel_rfl
set_option maxRecDepth 100000 in
theorem plan_ok85 : bodyOk plans 85 Try.f85 = true := by kernel_rfl
set_option maxRecDepth 100000 in
theorem plan_ok95 : bodyOk plans 95 Try.f95 = true := by kernel_rfl
set_option maxRecDepth 100000 in
theorem plan_ok96 : bodyOk plans 96 Try.f96 = true := by kernel_rfl
set_option maxRecDepth 100000 in
theorem plan_ok101 : bodyOk plans 101 Try.f101 = true := by kernel_rfl
set_option maxRecDepth 100000 in
theorem plan_ok102 : bodyOk plans 102 Try.f102 = true := by kernel_rfl
set_option maxRecDepth 100000 in
theorem plan_ok104 : bodyOk plans 104 Try.f104 = true := by kernel_rfl
set_option maxRecDepth 100000 in
theorem plan_ok108 : bodyOk plans 108 Try.f108 = true := by kernel_rfl
def planFs : List Nat := [3, 4, 6, 10, 11, 13, 14, 15, 17, 24, 25, 30, 38, 39, 40, 42, 43, 44, 45, 47, 48, 49, 51, 53, 54, 55, 56, 57, 58, 59, 67, 77, 78, 79, 81, 82, 83, 84, 85, 95, 96, 101, 102, 104, 108]
set_option maxRecDepth 100000 in
theorem plans_rest : (Try.prog.funcs.toList.zipIdx.all fun x => planFs.contains x.2 || bodyOk plans x.2 x.1) = true := by kernel_rfl
theorem plans_lot0 : ∀ f ∈ ([3, 4, 6, 10, 11, 13, 14, 15, 17, 24, 25, 30, 38, 39, 40, 42, 43, 44, 45, 47, 48, 49, 51, 53, 54, 55, 56, 57, 58, 59, 67, 77, 78, 79, 81, 82, 83, 84, 85, 95] : List Nat), ∀ fn, Try.prog.funcs[f]? = some fn → bodyOk plans f fn = true := by
  refine List.forall_mem_cons.2 ⟨fun fn hf => ?_, ?_⟩
  · rw [Try.func3] at hf; cases hf; exact plan_ok3
  refine List.forall_mem_cons.2 ⟨fun fn hf => ?_, ?_⟩
  · rw [Try.func4] at hf; cases hf; exact plan_ok4
  refine List.forall_mem_cons.2 ⟨fun fn hf => ?_, ?_⟩
  · rw [Try.func6] at hf; cases hf; exact plan_ok6
  refine List.forall_mem_cons.2 ⟨fun fn hf => ?_, ?_⟩
  · rw [Try.func10] at hf; cases hf; exact plan_ok10
  refine List.forall_mem_cons.2 ⟨fun fn hf => ?_, ?_⟩
  · rw [Try.func11] at hf; cases hf; exact plan_ok11
  refine List.forall_mem_cons.2 ⟨fun fn hf => ?_, ?_⟩
  · rw [Try.func13] at hf; cases hf; exact plan_ok13
  refine List.forall_mem_cons.2 ⟨fun fn hf => ?_, ?_⟩
  · rw [Try.func14] at hf; cases hf; exact plan_ok14
  refine List.forall_mem_cons.2 ⟨fun fn hf => ?_, ?_⟩
  · rw [Try.func15] at hf; cases hf; exact plan_ok15
  refine List.forall_mem_cons.2 ⟨fun fn hf => ?_, ?_⟩
  · rw [Try.func17] at hf; cases hf; exact plan_ok17
  refine List.forall_mem_cons.2 ⟨fun fn hf => ?_, ?_⟩
  · rw [Try.func24] at hf; cases hf; exact plan_ok24
  refine List.forall_mem_cons.2 ⟨fun fn hf => ?_, ?_⟩
  · rw [Try.func25] at hf; cases hf; exact plan_ok25
  refine List.forall_mem_cons.2 ⟨fun fn hf => ?_, ?_⟩
  · rw [Try.func30] at hf; cases hf; exact plan_ok30
  refine List.forall_mem_cons.2 ⟨fun fn hf => ?_, ?_⟩
  · rw [Try.func38] at hf; cases hf; exact plan_ok38
  refine List.forall_mem_cons.2 ⟨fun fn hf => ?_, ?_⟩
  · rw [Try.func39] at hf; cases hf; exact plan_ok39
  refine List.forall_mem_cons.2 ⟨fun fn hf => ?_, ?_⟩
  · rw [Try.func40] at hf; cases hf; exact plan_ok40
  refine List.forall_mem_cons.2 ⟨fun fn hf => ?_, ?_⟩
  · rw [Try.func42] at hf; cases hf; exact plan_ok42
  refine List.forall_mem_cons.2 ⟨fun fn hf => ?_, ?_⟩
  · rw [Try.func43] at hf; cases hf; exact plan_ok43
  refine List.forall_mem_cons.2 ⟨fun fn hf => ?_, ?_⟩
  · rw [Try.func44] at hf; cases hf; exact plan_ok44
  refine List.forall_mem_cons.2 ⟨fun fn hf => ?_, ?_⟩
  · rw [Try.func45] at hf; cases hf; exact plan_ok45
  refine List.forall_mem_cons.2 ⟨fun fn hf => ?_, ?_⟩
  · rw [Try.func47] at hf; cases hf; exact plan_ok47
  refine List.forall_mem_cons.2 ⟨fun fn hf => ?_, ?_⟩
  · rw [Try.func48] at hf; cases hf; exact plan_ok48
  refine List.forall_mem_cons.2 ⟨fun fn hf => ?_, ?_⟩
  · rw [Try.func49] at hf; cases hf; exact plan_ok49
  refine List.forall_mem_cons.2 ⟨fun fn hf => ?_, ?_⟩
  · rw [Try.func51] at hf; cases hf; exact plan_ok51
  refine List.forall_mem_cons.2 ⟨fun fn hf => ?_, ?_⟩
  · rw [Try.func53] at hf; cases hf; exact plan_ok53
  refine List.forall_mem_cons.2 ⟨fun fn hf => ?_, ?_⟩
  · rw [Try.func54] at hf; cases hf; exact plan_ok54
  refine List.forall_mem_cons.2 ⟨fun fn hf => ?_, ?_⟩
  · rw [Try.func55] at hf; cases hf; exact plan_ok55
  refine List.forall_mem_cons.2 ⟨fun fn hf => ?_, ?_⟩
  · rw [Try.func56] at hf; cases hf; exact plan_ok56
  refine List.forall_mem_cons.2 ⟨fun fn hf => ?_, ?_⟩
  · rw [Try.func57] at hf; cases hf; exact plan_ok57
  refine List.forall_mem_cons.2 ⟨fun fn hf => ?_, ?_⟩
  · rw [Try.func58] at hf; cases hf; exact plan_ok58
  refine List.forall_mem_cons.2 ⟨fun fn hf => ?_, ?_⟩
  · rw [Try.func59] at hf; cases hf; exact plan_ok59
  refine List.forall_mem_cons.2 ⟨fun fn hf => ?_, ?_⟩
  · rw [Try.func67] at hf; cases hf; exact plan_ok67
  refine List.forall_mem_cons.2 ⟨fun fn hf => ?_, ?_⟩
  · rw [Try.func77] at hf; cases hf; exact plan_ok77
  refine List.forall_mem_cons.2 ⟨fun fn hf => ?_, ?_⟩
  · rw [Try.func78] at hf; cases hf; exact plan_ok78
  refine List.forall_mem_cons.2 ⟨fun fn hf => ?_, ?_⟩
  · rw [Try.func79] at hf; cases hf; exact plan_ok79
  refine List.forall_mem_cons.2 ⟨fun fn hf => ?_, ?_⟩
  · rw [Try.func81] at hf; cases hf; exact plan_ok81
  refine List.forall_mem_cons.2 ⟨fun fn hf => ?_, ?_⟩
  · rw [Try.func82] at hf; cases hf; exact plan_ok82
  refine List.forall_mem_cons.2 ⟨fun fn hf => ?_, ?_⟩
  · rw [Try.func83] at hf; cases hf; exact plan_ok83
  refine List.forall_mem_cons.2 ⟨fun fn hf => ?_, ?_⟩
  · rw [Try.func84] at hf; cases hf; exact plan_ok84
  refine List.forall_mem_cons.2 ⟨fun fn hf => ?_, ?_⟩
  · rw [Try.func85] at hf; cases hf; exact plan_ok85
  refine List.forall_mem_cons.2 ⟨fun fn hf => ?_, ?_⟩
  · rw [Try.func95] at hf; cases hf; exact plan_ok95
  exact fun x hx => by cases hx
theorem plans_lot1 : ∀ f ∈ ([96, 101, 102, 104, 108] : List Nat), ∀ fn, Try.prog.funcs[f]? = some fn → bodyOk plans f fn = true := by
  refine List.forall_mem_cons.2 ⟨fun fn hf => ?_, ?_⟩
  · rw [Try.func96] at hf; cases hf; exact plan_ok96
  refine List.forall_mem_cons.2 ⟨fun fn hf => ?_, ?_⟩
  · rw [Try.func101] at hf; cases hf; exact plan_ok101
  refine List.forall_mem_cons.2 ⟨fun fn hf => ?_, ?_⟩
  · rw [Try.func102] at hf; cases hf; exact plan_ok102
  refine List.forall_mem_cons.2 ⟨fun fn hf => ?_, ?_⟩
  · rw [Try.func104] at hf; cases hf; exact plan_ok104
  refine List.forall_mem_cons.2 ⟨fun fn hf => ?_, ?_⟩
  · rw [Try.func108] at hf; cases hf; exact plan_ok108
  exact fun x hx => by cases hx
theorem planFs_cut : planFs = [3, 4, 6, 10, 11, 13, 14, 15, 17, 24, 25, 30, 38, 39, 40, 42, 43, 44, 45, 47, 48, 49, 51, 53, 54, 55, 56, 57, 58, 59, 67, 77, 78, 79, 81, 82, 83, 84, 85, 95] ++ [96, 101, 102, 104, 108] := by kernel_rfl
theorem plans_ok : PlansOk Try.prog plans := by
  have key : ∀ f fn, Try.prog.funcs[f]? = some fn → bodyOk plans f fn = true := by
    intro f fn hf
    have h := List.all_eq_true.1 plans_rest (fn, f) (by rw [List.mem_zipIdx_iff_getElem?]; simpa using hf)
    simp only [Bool.or_eq_true] at h
    rcases h with h | h
    · have h := List.contains_iff_mem.1 h
      rw [planFs_cut] at h
      rcases List.mem_append.1 h with h | h
      rotate_left
      · exact plans_lot1 f h fn hf
      exact plans_lot0 f h fn hf
    · exact h
  refine ⟨fun f fn c hf hc => ?_, fun a ha => by cases ha⟩
  simpa [bodyOk, hc] using key f fn hf

end Go.Proofs.Ytlmpmmcefdhgmaa

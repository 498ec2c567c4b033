/-
  The plans serve every region that draws its order. Printed by plans.py.
-/
import Derived.Test.YtffadpfkdphhgaaSxs
import Derived.Test.YtffadpfkdphhgaaProg
import Derived.Test.YtffadpfkdphhgaaPls
set_option linter.unusedVariables false
set_option linter.unusedSimpArgs false
namespace Go.Proofs.Ytffadpfkdphhgaa
open Go

theorem follows_mixed : Try.prog.follows .mixedOrders = true := by kernel_rfl
def bodyOk (pl : Plans) (f : FuncId) (fn : Func) : Bool := match fn.body with
  | some c => codeOk pl f c
  | none => true
set_option maxRecDepth 100000 in
theorem plan_ok3 : bodyOk plans 3 Try.f3 = true := by kernel_rfl
set_option maxRecDepth 100000 in
theorem plan_ok4 : bodyOk plans 4 Try.f4 = true := by kernel_rfl
set_option maxRecDepth 100000 in
theorem plan_ok5 : bodyOk plans 5 Try.f5 = true := by kernel_rfl
set_option maxRecDepth 100000 in
theorem plan_ok7 : bodyOk plans 7 Try.f7 = true := by kernel_rfl
set_option maxRecDepth 100000 in
theorem plan_ok11 : bodyOk plans 11 Try.f11 = true := by kernel_rfl
set_option maxRecDepth 100000 in
theorem plan_ok12 : bodyOk plans 12 Try.f12 = true := by kernel_rfl
set_option maxRecDepth 100000 in
theorem plan_ok14 : bodyOk plans 14 Try.f14 = true := by kernel_rfl
set_option maxRecDepth 100000 in
theorem plan_ok15 : bodyOk plans 15 Try.f15 = true := by kernel_rfl
set_option maxRecDepth 100000 in
theorem plan_ok17 : bodyOk plans 17 Try.f17 = true := by kernel_rfl
set_option maxRecDepth 100000 in
theorem plan_ok18 : bodyOk plans 18 Try.f18 = true := by kernel_rfl
set_option maxRecDepth 100000 in
theorem plan_ok25 : bodyOk plans 25 Try.f25 = true := by kernel_rfl
set_option maxRecDepth 100000 in
theorem plan_ok26 : bodyOk plans 26 Try.f26 = true := by kernel_rfl
set_option maxRecDepth 100000 in
theorem plan_ok31 : bodyOk plans 31 Try.f31 = true := by kernel_rfl
set_option maxRecDepth 100000 in
theorem plan_ok36 : bodyOk plans 36 Try.f36 = true := by kernel_rfl
set_option maxRecDepth 100000 in
theorem plan_ok38 : bodyOk plans 38 Try.f38 = true := by kernel_rfl
set_option maxRecDepth 100000 in
theorem plan_ok40 : bodyOk plans 40 Try.f40 = true := by kernel_rfl
set_option maxRecDepth 100000 in
theorem plan_ok43 : bodyOk plans 43 Try.f43 = true := by kernel_rfl
set_option maxRecDepth 100000 in
theorem plan_ok44 : bodyOk plans 44 Try.f44 = true := by kernel_rfl
set_option maxRecDepth 100000 in
theorem plan_ok45 : bodyOk plans 45 Try.f45 = true := by kernel_rfl
set_option maxRecDepth 100000 in
theorem plan_ok46 : bodyOk plans 46 Try.f46 = true := by kernel_rfl
set_option maxRecDepth 100000 in
theorem plan_ok48 : bodyOk plans 48 Try.f48 = true := by kernel_rfl
set_option maxRecDepth 100000 in
theorem plan_ok49 : bodyOk plans 49 Try.f49 = true := by kernel_rfl
set_option maxRecDepth 100000 in
theorem plan_ok50 : bodyOk plans 50 Try.f50 = true := by kernel_rfl
set_option maxRecDepth 100000 in
theorem plan_ok52 : bodyOk plans 52 Try.f52 = true := by kernel_rfl
set_option maxRecDepth 100000 in
theorem plan_ok54 : bodyOk plans 54 Try.f54 = true := by kernel_rfl
set_option maxRecDepth 100000 in
theorem plan_ok55 : bodyOk plans 55 Try.f55 = true := by kernel_rfl
set_option maxRecDepth 100000 in
theorem plan_ok56 : bodyOk plans 56 Try.f56 = true := by kernel_rfl
set_option maxRecDepth 100000 in
theorem plan_ok57 : bodyOk plans 57 Try.f57 = true := by kernel_rfl
set_option maxRecDepth 100000 in
theorem plan_ok58 : bodyOk plans 58 Try.f58 = true := by kernel_rfl
set_option maxRecDepth 100000 in
theorem plan_ok59 : bodyOk plans 59 Try.f59 = true := by kernel_rfl
set_option maxRecDepth 100000 in
theorem plan_ok60 : bodyOk plans 60 Try.f60 = true := by kernel_rfl
set_option maxRecDepth 100000 in
theorem plan_ok68 : bodyOk plans 68 Try.f68 = true := by kernel_rfl
set_option maxRecDepth 100000 in
theorem plan_ok78 : bodyOk plans 78 Try.f78 = true := by kernel_rfl
set_option maxRecDepth 100000 in
theorem plan_ok79 : bodyOk plans 79 Try.f79 = true := by kernel_rfl
set_option maxRecDepth 100000 in
theorem plan_ok80 : bodyOk plans 80 Try.f80 = true := by kernel_rfl
set_option maxRecDepth 100000 in
theorem plan_ok82 : bodyOk plans 82 Try.f82 = true := by kernel_rfl
set_option maxRecDepth 100000 in
theorem plan_ok83 : bodyOk plans 83 Try.f83 = true := by kernel_rfl
set_option maxRecDepth 100000 in
theorem plan_ok84 : bodyOk plans 84 Try.f84 = true := by kernel_rfl
set_option maxRecDepth 100000 in
theorem plan_ok85 : bodyOk plans 85 Try.f85 = true := by kernel_rfl
set_option maxRecDepth 100000 in
theorem plan_ok86 : bodyOk plans 86 Try.f86 = true := by kernel_rfl
set_option maxRecDepth 100000 in
theorem plan_ok96 : bodyOk plans 96 Try.f96 = true := by kernel_rfl
set_option maxRecDepth 100000 in
theorem plan_ok97 : bodyOk plans 97 Try.f97 = true := by kernel_rfl
set_option maxRecDepth 100000 in
theorem plan_ok102 : bodyOk plans 102 Try.f102 = true := by kernel_rfl
set_option maxRecDepth 100000 in
theorem plan_ok103 : bodyOk plans 103 Try.f103 = true := by kernel_rfl
set_option maxRecDepth 100000 in
theorem plan_ok105 : bodyOk plans 105 Try.f105 = true := by kernel_rfl
set_option maxRecDepth 100000 in
theorem plan_ok109 : bodyOk plans 109 Try.f109 = true := by kernel_rfl
def planFs : List Nat := [3, 4, 5, 7, 11, 12, 14, 15, 17, 18, 25, 26, 31, 36, 38, 40, 43, 44, 45, 46, 48, 49, 50, 52, 54, 55, 56, 57, 58, 59, 60, 68, 78, 79, 80, 82, 83, 84, 85, 86, 96, 97, 102, 103, 105, 109]
set_option maxRecDepth 100000 in
theorem plans_rest : (Try.prog.funcs.toList.zipIdx.all fun x => planFs.contains x.2 || bodyOk plans x.2 x.1) = true := by kernel_rfl
theorem plans_lot0 : ∀ f ∈ ([3, 4, 5, 7, 11, 12, 14, 15, 17, 18, 25, 26, 31, 36, 38, 40, 43, 44, 45, 46, 48, 49, 50, 52, 54, 55, 56, 57, 58, 59, 60, 68, 78, 79, 80, 82, 83, 84, 85, 86] : List Nat), ∀ fn, Try.prog.funcs[f]? = some fn → bodyOk plans f fn = true := by
  refine List.forall_mem_cons.2 ⟨fun fn hf => ?_, ?_⟩
  · rw [Try.func3] at hf; cases hf; exact plan_ok3
  refine List.forall_mem_cons.2 ⟨fun fn hf => ?_, ?_⟩
  · rw [Try.func4] at hf; cases hf; exact plan_ok4
  refine List.forall_mem_cons.2 ⟨fun fn hf => ?_, ?_⟩
  · rw [Try.func5] at hf; cases hf; exact plan_ok5
  refine List.forall_mem_cons.2 ⟨fun fn hf => ?_, ?_⟩
  · rw [Try.func7] at hf; cases hf; exact plan_ok7
  refine List.forall_mem_cons.2 ⟨fun fn hf => ?_, ?_⟩
  · rw [Try.func11] at hf; cases hf; exact plan_ok11
  refine List.forall_mem_cons.2 ⟨fun fn hf => ?_, ?_⟩
  · rw [Try.func12] at hf; cases hf; exact plan_ok12
  refine List.forall_mem_cons.2 ⟨fun fn hf => ?_, ?_⟩
  · rw [Try.func14] at hf; cases hf; exact plan_ok14
  refine List.forall_mem_cons.2 ⟨fun fn hf => ?_, ?_⟩
  · rw [Try.func15] at hf; cases hf; exact plan_ok15
  refine List.forall_mem_cons.2 ⟨fun fn hf => ?_, ?_⟩
  · rw [Try.func17] at hf; cases hf; exact plan_ok17
  refine List.forall_mem_cons.2 ⟨fun fn hf => ?_, ?_⟩
  · rw [Try.func18] at hf; cases hf; exact plan_ok18
  refine List.forall_mem_cons.2 ⟨fun fn hf => ?_, ?_⟩
  · rw [Try.func25] at hf; cases hf; exact plan_ok25
  refine List.forall_mem_cons.2 ⟨fun fn hf => ?_, ?_⟩
  · rw [Try.func26] at hf; cases hf; exact plan_ok26
  refine List.forall_mem_cons.2 ⟨fun fn hf => ?_, ?_⟩
  · rw [Try.func31] at hf; cases hf; exact plan_ok31
  refine List.forall_mem_cons.2 ⟨fun fn hf => ?_, ?_⟩
  · rw [Try.func36] at hf; cases hf; exact plan_ok36
  refine List.forall_mem_cons.2 ⟨fun fn hf => ?_, ?_⟩
  · rw [Try.func38] at hf; cases hf; exact plan_ok38
  refine List.forall_mem_cons.2 ⟨fun fn hf => ?_, ?_⟩
  · rw [Try.func40] at hf; cases hf; exact plan_ok40
  refine List.forall_mem_cons.2 ⟨fun fn hf => ?_, ?_⟩
  · rw [Try.func43] at hf; cases hf; exact plan_ok43
  refine List.forall_mem_cons.2 ⟨fun fn hf => ?_, ?_⟩
  · rw [Try.func44] at hf; cases hf; exact plan_ok44
  refine List.forall_mem_cons.2 ⟨fun fn hf => ?_, ?_⟩
  · rw [Try.func45] at hf; cases hf; exact plan_ok45
  refine List.forall_mem_cons.2 ⟨fun fn hf => ?_, ?_⟩
  · rw [Try.func46] at hf; cases hf; exact plan_ok46
  refine List.forall_mem_cons.2 ⟨fun fn hf => ?_, ?_⟩
  · rw [Try.func48] at hf; cases hf; exact plan_ok48
  refine List.forall_mem_cons.2 ⟨fun fn hf => ?_, ?_⟩
  · rw [Try.func49] at hf; cases hf; exact plan_ok49
  refine List.forall_mem_cons.2 ⟨fun fn hf => ?_, ?_⟩
  · rw [Try.func50] at hf; cases hf; exact plan_ok50
  refine List.forall_mem_cons.2 ⟨fun fn hf => ?_, ?_⟩
  · rw [Try.func52] at hf; cases hf; exact plan_ok52
  refine List.forall_mem_cons.2 ⟨fun fn hf => ?_, ?_⟩
  · rw [Try.func54] at hf; cases hf; exact plan_ok54
  refine List.forall_mem_cons.2 ⟨fun fn hf => ?_, ?_⟩
  · rw [Try.func55] at hf; cases hf; exact plan_ok55
  refine List.forall_mem_cons.2 ⟨fun fn hf => ?_, ?_⟩
  · rw [Try.func56] at hf; cases hf; exact plan_ok56
  refine List.forall_mem_cons.2 ⟨fun fn hf => ?_, ?_⟩
  · rw [Try.func57] at hf; cases hf; exact plan_ok57
  refine List.forall_mem_cons.2 ⟨fun fn hf => ?_, ?_⟩
  · rw [Try.func58] at hf; cases hf; exact plan_ok58
  refine List.forall_mem_cons.2 ⟨fun fn hf => ?_, ?_⟩
  · rw [Try.func59] at hf; cases hf; exact plan_ok59
  refine List.forall_mem_cons.2 ⟨fun fn hf => ?_, ?_⟩
  · rw [Try.func60] at hf; cases hf; exact plan_ok60
  refine List.forall_mem_cons.2 ⟨fun fn hf => ?_, ?_⟩
  · rw [Try.func68] at hf; cases hf; exact plan_ok68
  refine List.forall_mem_cons.2 ⟨fun fn hf => ?_, ?_⟩
  · rw [Try.func78] at hf; cases hf; exact plan_ok78
  refine List.forall_mem_cons.2 ⟨fun fn hf => ?_, ?_⟩
  · rw [Try.func79] at hf; cases hf; exact plan_ok79
  refine List.forall_mem_cons.2 ⟨fun fn hf => ?_, ?_⟩
  · rw [Try.func80] at hf; cases hf; exact plan_ok80
  refine List.forall_mem_cons.2 ⟨fun fn hf => ?_, ?_⟩
  · rw [Try.func82] at hf; cases hf; exact plan_ok82
  refine List.forall_mem_cons.2 ⟨fun fn hf => ?_, ?_⟩
  · rw [Try.func83] at hf; cases hf; exact plan_ok83
  refine List.forall_mem_cons.2 ⟨fun fn hf => ?_, ?_⟩
  · rw [Try.func84] at hf; cases hf; exact plan_ok84
  refine List.forall_mem_cons.2 ⟨fun fn hf => ?_, ?_⟩
  · rw [Try.func85] at hf; cases hf; exact plan_ok85
  refine List.forall_mem_cons.2 ⟨fun fn hf => ?_, ?_⟩
  · rw [Try.func86] at hf; cases hf; exact plan_ok86
  exact fun x hx => by cases hx
theorem plans_lot1 : ∀ f ∈ ([96, 97, 102, 103, 105, 109] : List Nat), ∀ fn, Try.prog.funcs[f]? = some fn → bodyOk plans f fn = true := by
  refine List.forall_mem_cons.2 ⟨fun fn hf => ?_, ?_⟩
  · rw [Try.func96] at hf; cases hf; exact plan_ok96
  refine List.forall_mem_cons.2 ⟨fun fn hf => ?_, ?_⟩
  · rw [Try.func97] at hf; cases hf; exact plan_ok97
  refine List.forall_mem_cons.2 ⟨fun fn hf => ?_, ?_⟩
  · rw [Try.func102] at hf; cases hf; exact plan_ok102
  refine List.forall_mem_cons.2 ⟨fun fn hf => ?_, ?_⟩
  · rw [Try.func103] at hf; cases hf; exact plan_ok103
  refine List.forall_mem_cons.2 ⟨fun fn hf => ?_, ?_⟩
  · rw [Try.func105] at hf; cases hf; exact plan_ok105
  refine List.forall_mem_cons.2 ⟨fun fn hf => ?_, ?_⟩
  · rw [Try.func109] at hf; cases hf; exact plan_ok109
  exact fun x hx => by cases hx
theorem planFs_cut : planFs = [3, 4, 5, 7, 11, 12, 14, 15, 17, 18, 25, 26, 31, 36, 38, 40, 43, 44, 45, 46, 48, 49, 50, 52, 54, 55, 56, 57, 58, 59, 60, 68, 78, 79, 80, 82, 83, 84, 85, 86] ++ [96, 97, 102, 103, 105, 109] := by kernel_rfl
theorem plans_ok : PlansOk Try.prog plans := by
  have key : ∀ f fn, Try.prog.funcs[f]? = some fn → bodyOk plans f fn = true := by
    intro f fn hf
    have h := List.all_eq_true.1 plans_rest (fn, f) (by rw [List.mem_zipIdx_iff_getElem?]; simpa using hf)
    simp only [Bool.or_eq_true] at h
    rcases h with h | h
    · have h := List.contains_iff_mem.1 h
      rw [planFs_cut] at h
      rcases List.mem_append.1 h with h | h
      rotate_left
      · exact plans_lot1 f h fn hf
      exact plans_lot0 f h fn hf
    · exact h
  refine ⟨fun f fn c hf hc => ?_, fun a ha => by cases ha⟩
  simpa [bodyOk, hc] using key f fn hf

end Go.Proofs.Ytffadpfkdphhgaa

/-
  The plans serve every region that draws its order. Printed by plans.py.
-/
import Derived.Test.YtjblchdoalipeaaCe
import Derived.Test.YtjblchdoalipeaaProg
import Derived.Test.YtjblchdoalipeaaPls
set_option linter.unusedVariables false
set_option linter.unusedSimpArgs false
namespace Go.Proofs.Ytjblchdoalipeaa
open Go

theorem follows_mixed : Try.prog.follows .mixedOrders = true := by kernel_rfl
def bodyOk (pl : Plans) (f : FuncId) (fn : Func) : Bool := match fn.body with
  | some c => codeOk pl f c
  | none => true
set_option maxRecDepth 100000 in
theorem plan_ok3 : bodyOk plans 3 Try.f3 = true := by kernel_rfl
set_option maxRecDepth 100000 in
theorem plan_ok4 : bodyOk plans 4 Try.f4 = true := by kernel_rfl
set_option maxRecDepth 100000 in
theorem plan_ok9 : bodyOk plans 9 Try.f9 = true := by kernel_rfl
set_option maxRecDepth 100000 in
theorem plan_ok10 : bodyOk plans 10 Try.f10 = true := by kernel_rfl
set_option maxRecDepth 100000 in
theorem plan_ok13 : bodyOk plans 13 Try.f13 = true := by kernel_rfl
set_option maxRecDepth 100000 in
theorem plan_ok14 : bodyOk plans 14 Try.f14 = true := by kernel_rfl
set_option maxRecDepth 100000 in
theorem plan_ok16 : bodyOk plans 16 Try.f16 = true := by kernel_rfl
set_option maxRecDepth 100000 in
theorem plan_ok19 : bodyOk plans 19 Try.f19 = true := by kernel_rfl
set_option maxRecDepth 100000 in
theorem plan_ok25 : bodyOk plans 25 Try.f25 = true := by kernel_rfl
set_option maxRecDepth 100000 in
theorem plan_ok26 : bodyOk plans 26 Try.f26 = true := by kernel_rfl
set_option maxRecDepth 100000 in
theorem plan_ok27 : bodyOk plans 27 Try.f27 = true := by kernel_rfl
set_option maxRecDepth 100000 in
theorem plan_ok30 : bodyOk plans 30 Try.f30 = true := by kernel_rfl
set_option maxRecDepth 100000 in
theorem plan_ok32 : bodyOk plans 32 Try.f32 = true := by kernel_rfl
set_option maxRecDepth 100000 in
theorem plan_ok34 : bodyOk plans 34 Try.f34 = true := by kernel_rfl
set_option maxRecDepth 100000 in
theorem plan_ok38 : bodyOk plans 38 Try.f38 = true := by kernel_rfl
set_option maxRecDepth 100000 in
theorem plan_ok41 : bodyOk plans 41 Try.f41 = true := by kernel_rfl
set_option maxRecDepth 100000 in
theorem plan_ok43 : bodyOk plans 43 Try.f43 = true := by kernel_rfl
set_option maxRecDepth 100000 in
theorem plan_ok44 : bodyOk plans 44 Try.f44 = true := by kernel_rfl
set_option maxRecDepth 100000 in
theorem plan_ok45 : bodyOk plans 45 Try.f45 = true := by kernel_rfl
set_option maxRecDepth 100000 in
theorem plan_ok46 : bodyOk plans 46 Try.f46 = true := by kernel_rfl
set_option maxRecDepth 100000 in
theorem plan_ok47 : bodyOk plans 47 Try.f47 = true := by kernel_rfl
set_option maxRecDepth 100000 in
theorem plan_ok48 : bodyOk plans 48 Try.f48 = true := by kernel_rfl
set_option maxRecDepth 100000 in
theorem plan_ok49 : bodyOk plans 49 Try.f49 = true := by kernel_rfl
set_option maxRecDepth 100000 in
theorem plan_ok50 : bodyOk plans 50 Try.f50 = true := by kernel_rfl
set_option maxRecDepth 100000 in
theorem plan_ok51 : bodyOk plans 51 Try.f51 = true := by kernel_rfl
set_option maxRecDepth 100000 in
theorem plan_ok53 : bodyOk plans 53 Try.f53 = true := by kernel_rfl
set_option maxRecDepth 100000 in
theorem plan_ok54 : bodyOk plans 54 Try.f54 = true := by kernel_rfl
set_option maxRecDepth 100000 in
theorem plan_ok55 : bodyOk plans 55 Try.f55 = true := by kernel_rfl
set_option maxRecDepth 100000 in
theorem plan_ok60 : bodyOk plans 60 Try.f60 = true := by kernel_rfl
set_option maxRecDepth 100000 in
theorem plan_ok71 : bodyOk plans 71 Try.f71 = true := by kernel_rfl
set_option maxRecDepth 100000 in
theorem plan_ok72 : bodyOk plans 72 Try.f72 = true := by kernel_rfl
set_option maxRecDepth 100000 in
theorem plan_ok73 : bodyOk plans 73 Try.f73 = true := by kernel_rfl
set_option maxRecDepth 100000 in
theorem plan_ok76 : bodyOk plans 76 Try.f76 = true := by kernel_rfl
set_option maxRecDepth 100000 in
theorem plan_ok77 : bodyOk plans 77 Try.f77 = true := by kernel_rfl
set_option maxRecDepth 100000 in
theorem plan_ok78 : bodyOk plans 78 Try.f78 = true := by kernel_rfl
set_option maxRecDepth 100000 in
theorem plan_ok79 : bodyOk plans 79 Try.f79 = true := by kernel_rfl
set_option maxRecDepth 100000 in
theorem plan_ok80 : bodyOk plans 80 Try.f80 = true := by kernel_rfl
set_option maxRecDepth 100000 in
theorem plan_ok91 : bodyOk plans 91 Try.f91 = true := by kernel_rfl
set_option maxRecDepth 100000 in
theorem plan_ok92 : bodyOk plans 92 Try.f92 = true := by kernel_rfl
set_option maxRecDepth 100000 in
theorem plan_ok97 : bodyOk plans 97 Try.f97 = true := by kernel_rfl
set_option maxRecDepth 100000 in
theorem plan_ok98 : bodyOk plans 98 Try.f98 = true := by kernel_rfl
set_option maxRecDepth 100000 in
theorem plan_ok100 : bodyOk plans 100 Try.f100 = true := by kernel_rfl
set_option maxRecDepth 100000 in
theorem plan_ok104 : bodyOk plans 104 Try.f104 = true := by kernel_rfl
def planFs : List Nat := [3, 4, 9, 10, 13, 14, 16, 19, 25, 26, 27, 30, 32, 34, 38, 41, 43, 44, 45, 46, 47, 48, 49, 50, 51, 53, 54, 55, 60, 71, 72, 73, 76, 77, 78, 79, 80, 91, 92, 97, 98, 100, 104]
set_option maxRecDepth 100000 in
theorem plans_rest : (Try.prog.funcs.toList.zipIdx.all fun x => planFs.contains x.2 || bodyOk plans x.2 x.1) = true := by kernel_rfl
theorem plans_lot0 : ∀ f ∈ ([3, 4, 9, 10, 13, 14, 16, 19, 25, 26, 27, 30, 32, 34, 38, 41, 43, 44, 45, 46, 47, 48, 49, 50, 51, 53, 54, 55, 60, 71, 72, 73, 76, 77, 78, 79, 80, 91, 92, 97] : List Nat), ∀ fn, Try.prog.funcs[f]? = some fn → bodyOk plans f fn = true := by
  refine List.forall_mem_cons.2 ⟨fun fn hf => ?_, ?_⟩
  · rw [Try.func3] at hf; cases hf; exact plan_ok3
  refine List.forall_mem_cons.2 ⟨fun fn hf => ?_, ?_⟩
  · rw [Try.func4] at hf; cases hf; exact plan_ok4
  refine List.forall_mem_cons.2 ⟨fun fn hf => ?_, ?_⟩
  · rw [Try.func9] at hf; cases hf; exact plan_ok9
  refine List.forall_mem_cons.2 ⟨fun fn hf => ?_, ?_⟩
  · rw [Try.func10] at hf; cases hf; exact plan_ok10
  refine List.forall_mem_cons.2 ⟨fun fn hf => ?_, ?_⟩
  · rw [Try.func13] at hf; cases hf; exact plan_ok13
  refine List.forall_mem_cons.2 ⟨fun fn hf => ?_, ?_⟩
  · rw [Try.func14] at hf; cases hf; exact plan_ok14
  refine List.forall_mem_cons.2 ⟨fun fn hf => ?_, ?_⟩
  · rw [Try.func16] at hf; cases hf; exact plan_ok16
  refine List.forall_mem_cons.2 ⟨fun fn hf => ?_, ?_⟩
  · rw [Try.func19] at hf; cases hf; exact plan_ok19
  refine List.forall_mem_cons.2 ⟨fun fn hf => ?_, ?_⟩
  · rw [Try.func25] at hf; cases hf; exact plan_ok25
  refine List.forall_mem_cons.2 ⟨fun fn hf => ?_, ?_⟩
  · rw [Try.func26] at hf; cases hf; exact plan_ok26
  refine List.forall_mem_cons.2 ⟨fun fn hf => ?_, ?_⟩
  · rw [Try.func27] at hf; cases hf; exact plan_ok27
  refine List.forall_mem_cons.2 ⟨fun fn hf => ?_, ?_⟩
  · rw [Try.func30] at hf; cases hf; exact plan_ok30
  refine List.forall_mem_cons.2 ⟨fun fn hf => ?_, ?_⟩
  · rw [Try.func32] at hf; cases hf; exact plan_ok32
  refine List.forall_mem_cons.2 ⟨fun fn hf => ?_, ?_⟩
  · rw [Try.func34] at hf; cases hf; exact plan_ok34
  refine List.forall_mem_cons.2 ⟨fun fn hf => ?_, ?_⟩
  · rw [Try.func38] at hf; cases hf; exact plan_ok38
  refine List.forall_mem_cons.2 ⟨fun fn hf => ?_, ?_⟩
  · rw [Try.func41] at hf; cases hf; exact plan_ok41
  refine List.forall_mem_cons.2 ⟨fun fn hf => ?_, ?_⟩
  · rw [Try.func43] at hf; cases hf; exact plan_ok43
  refine List.forall_mem_cons.2 ⟨fun fn hf => ?_, ?_⟩
  · rw [Try.func44] at hf; cases hf; exact plan_ok44
  refine List.forall_mem_cons.2 ⟨fun fn hf => ?_, ?_⟩
  · rw [Try.func45] at hf; cases hf; exact plan_ok45
  refine List.forall_mem_cons.2 ⟨fun fn hf => ?_, ?_⟩
  · rw [Try.func46] at hf; cases hf; exact plan_ok46
  refine List.forall_mem_cons.2 ⟨fun fn hf => ?_, ?_⟩
  · rw [Try.func47] at hf; cases hf; exact plan_ok47
  refine List.forall_mem_cons.2 ⟨fun fn hf => ?_, ?_⟩
  · rw [Try.func48] at hf; cases hf; exact plan_ok48
  refine List.forall_mem_cons.2 ⟨fun fn hf => ?_, ?_⟩
  · rw [Try.func49] at hf; cases hf; exact plan_ok49
  refine List.forall_mem_cons.2 ⟨fun fn hf => ?_, ?_⟩
  · rw [Try.func50] at hf; cases hf; exact plan_ok50
  refine List.forall_mem_cons.2 ⟨fun fn hf => ?_, ?_⟩
  · rw [Try.func51] at hf; cases hf; exact plan_ok51
  refine List.forall_mem_cons.2 ⟨fun fn hf => ?_, ?_⟩
  · rw [Try.func53] at hf; cases hf; exact plan_ok53
  refine List.forall_mem_cons.2 ⟨fun fn hf => ?_, ?_⟩
  · rw [Try.func54] at hf; cases hf; exact plan_ok54
  refine List.forall_mem_cons.2 ⟨fun fn hf => ?_, ?_⟩
  · rw [Try.func55] at hf; cases hf; exact plan_ok55
  refine List.forall_mem_cons.2 ⟨fun fn hf => ?_, ?_⟩
  · rw [Try.func60] at hf; cases hf; exact plan_ok60
  refine List.forall_mem_cons.2 ⟨fun fn hf => ?_, ?_⟩
  · rw [Try.func71] at hf; cases hf; exact plan_ok71
  refine List.forall_mem_cons.2 ⟨fun fn hf => ?_, ?_⟩
  · rw [Try.func72] at hf; cases hf; exact plan_ok72
  refine List.forall_mem_cons.2 ⟨fun fn hf => ?_, ?_⟩
  · rw [Try.func73] at hf; cases hf; exact plan_ok73
  refine List.forall_mem_cons.2 ⟨fun fn hf => ?_, ?_⟩
  · rw [Try.func76] at hf; cases hf; exact plan_ok76
  refine List.forall_mem_cons.2 ⟨fun fn hf => ?_, ?_⟩
  · rw [Try.func77] at hf; cases hf; exact plan_ok77
  refine List.forall_mem_cons.2 ⟨fun fn hf => ?_, ?_⟩
  · rw [Try.func78] at hf; cases hf; exact plan_ok78
  refine List.forall_mem_cons.2 ⟨fun fn hf => ?_, ?_⟩
  · rw [Try.func79] at hf; cases hf; exact plan_ok79
  refine List.forall_mem_cons.2 ⟨fun fn hf => ?_, ?_⟩
  · rw [Try.func80] at hf; cases hf; exact plan_ok80
  refine List.forall_mem_cons.2 ⟨fun fn hf => ?_, ?_⟩
  · rw [Try.func91] at hf; cases hf; exact plan_ok91
  refine List.forall_mem_cons.2 ⟨fun fn hf => ?_, ?_⟩
  · rw [Try.func92] at hf; cases hf; exact plan_ok92
  refine List.forall_mem_cons.2 ⟨fun fn hf => ?_, ?_⟩
  · rw [Try.func97] at hf; cases hf; exact plan_ok97
  exact fun x hx => by cases hx
theorem plans_lot1 : ∀ f ∈ ([98, 100, 104] : List Nat), ∀ fn, Try.prog.funcs[f]? = some fn → bodyOk plans f fn = true := by
  refine List.forall_mem_cons.2 ⟨fun fn hf => ?_, ?_⟩
  · rw [Try.func98] at hf; cases hf; exact plan_ok98
  refine List.forall_mem_cons.2 ⟨fun fn hf => ?_, ?_⟩
  · rw [Try.func100] at hf; cases hf; exact plan_ok100
  refine List.forall_mem_cons.2 ⟨fun fn hf => ?_, ?_⟩
  · rw [Try.func104] at hf; cases hf; exact plan_ok104
  exact fun x hx => by cases hx
theorem planFs_cut : planFs = [3, 4, 9, 10, 13, 14, 16, 19, 25, 26, 27, 30, 32, 34, 38, 41, 43, 44, 45, 46, 47, 48, 49, 50, 51, 53, 54, 55, 60, 71, 72, 73, 76, 77, 78, 79, 80, 91, 92, 97] ++ [98, 100, 104] := by kernel_rfl
theorem plans_ok : PlansOk Try.prog plans := by
  have key : ∀ f fn, Try.prog.funcs[f]? = some fn → bodyOk plans f fn = true := by
    intro f fn hf
    have h := List.all_eq_true.1 plans_rest (fn, f) (by rw [List.mem_zipIdx_iff_getElem?]; simpa using hf)
    simp only [Bool.or_eq_true] at h
    rcases h with h | h
    · have h := List.contains_iff_mem.1 h
      rw [planFs_cut] at h
      rcases List.mem_append.1 h with h | h
      rotate_left
      · exact plans_lot1 f h fn hf
      exact plans_lot0 f h fn hf
    · exact h
  refine ⟨fun f fn c hf hc => ?_, fun a ha => by cases ha⟩
  simpa [bodyOk, hc] using key f fn hf

end Go.Proofs.Ytjblchdoalipeaa

/-
  The plans serve every region that draws its order. Printed by plans.py.
-/
import Derived.Test.YtdklpcjipkhenaaSxs
import Derived.Test.YtdklpcjipkhenaaProg
import Derived.Test.YtdklpcjipkhenaaPls
set_option linter.unusedVariables false
set_option linter.unusedSimpArgs false
namespace Go.Proofs.Ytdklpcjipkhenaa
open Go

theorem follows_mixed : Try.prog.follows .mixedOrders = true := by kernel_rfl
def bodyOk (pl : Plans) (f : FuncId) (fn : Func) : Bool := match fn.body with
  | some c => codeOk pl f c
  | none => true
set_option maxRecDepth 100000 in
theorem plan_ok5 : bodyOk plans 5 Try.f5 = true := by kernel_rfl
set_option maxRecDepth 100000 in
theorem plan_ok6 : bodyOk plans 6 Try.f6 = true := by kernel_rfl
set_option maxRecDepth 100000 in
theorem plan_ok7 : bodyOk plans 7 Try.f7 = true := by kernel_rfl
set_option maxRecDepth 100000 in
theorem plan_ok10 : bodyOk plans 10 Try.f10 = true := by kernel_rfl
set_option maxRecDepth 100000 in
theorem plan_ok11 : bodyOk plans 11 Try.f11 = true := by kernel_rfl
set_option maxRecDepth 100000 in
theorem plan_ok12 : bodyOk plans 12 Try.f12 = true := by kernel_rfl
set_option maxRecDepth 100000 in
theorem plan_ok16 : bodyOk plans 16 Try.f16 = true := by kernel_rfl
set_option maxRecDepth 100000 in
theorem plan_ok17 : bodyOk plans 17 Try.f17 = true := by kernel_rfl
set_option maxRecDepth 100000 in
theorem plan_ok18 : bodyOk plans 18 Try.f18 = true := by kernel_rfl
set_option maxRecDepth 100000 in
theorem plan_ok23 : bodyOk plans 23 Try.f23 = true := by kernel_rfl
set_option maxRecDepth 100000 in
theorem plan_ok24 : bodyOk plans 24 Try.f24 = true := by kernel_rfl
set_option maxRecDepth 100000 in
theorem plan_ok27 : bodyOk plans 27 Try.f27 = true := by kernel_rfl
set_option maxRecDepth 100000 in
theorem plan_ok28 : bodyOk plans 28 Try.f28 = true := by kernel_rfl
set_option maxRecDepth 100000 in
theorem plan_ok34 : bodyOk plans 34 Try.f34 = true := by kernel_rfl
set_option maxRecDepth 100000 in
theorem plan_ok43 : bodyOk plans 43 Try.f43 = true := by kernel_rfl
set_option maxRecDepth 100000 in
theorem plan_ok44 : bodyOk plans 44 Try.f44 = true := by kernel_rfl
set_option maxRecDepth 100000 in
theorem plan_ok45 : bodyOk plans 45 Try.f45 = true := by kernel_rfl
set_option maxRecDepth 100000 in
theorem plan_ok46 : bodyOk plans 46 Try.f46 = true := by kernel_rfl
set_option maxRecDepth 100000 in
theorem plan_ok48 : bodyOk plans 48 Try.f48 = true := by kernel_rfl
set_option maxRecDepth 100000 in
theorem plan_ok50 : bodyOk plans 50 Try.f50 = true := by kernel_rfl
set_option maxRecDepth 100000 in
theorem plan_ok51 : bodyOk plans 51 Try.f51 = true := by kernel_rfl
set_option maxRecDepth 100000 in
theorem plan_ok52 : bodyOk plans 52 Try.f52 = true := by kernel_rfl
set_option maxRecDepth 100000 in
theorem plan_ok54 : bodyOk plans 54 Try.f54 = true := by kernel_rfl
set_option maxRecDepth 100000 in
theorem plan_ok55 : bodyOk plans 55 Try.f55 = true := by kernel_rfl
set_option maxRecDepth 100000 in
theorem plan_ok56 : bodyOk plans 56 Try.f56 = true := by kernel_rfl
set_option maxRecDepth 100000 in
theorem plan_ok57 : bodyOk plans 57 Try.f57 = true := by kernel_rfl
set_option maxRecDepth 100000 in
theorem plan_ok58 : bodyOk plans 58 Try.f58 = true := by kernel_rfl
set_option maxRecDepth 100000 in
theorem plan_ok59 : bodyOk plans 59 Try.f59 = true := by kernel_rfl
set_option maxRecDepth 100000 in
theorem plan_ok60 : bodyOk plans 60 Try.f60 = true := by kernel_rfl
set_option maxRecDepth 100000 in
theorem plan_ok61 : bodyOk plans 61 Try.f61 = true := by kernel_rfl
set_option maxRecDepth 100000 in
theorem plan_ok62 : bodyOk plans 62 Try.f62 = true := by kernel_rfl
set_option maxRecDepth 100000 in
theorem plan_ok66 : bodyOk plans 66 Try.f66 = true := by kernel_rfl
set_option maxRecDepth 100000 in
theorem plan_ok67 : bodyOk plans 67 Try.f67 = true := by kernel_rfl
set_option maxRecDepth 100000 in
theorem plan_ok68 : bodyOk plans 68 Try.f68 = true := by kernel_rfl
set_option maxRecDepth 100000 in
theorem plan_ok83 : bodyOk plans 83 Try.f83 = true := by kernel_rfl
set_option maxRecDepth 100000 in
theorem plan_ok84 : bodyOk plans 84 Try.f84 = true := by kernel_rfl
set_option maxRecDepth 100000 in
theorem plan_ok85 : bodyOk plans 85 Try.f85 = true := by kernel_rfl
set_option maxRecDepth 100000 in
theorem plan_ok87 : bodyOk plans 87 Try.f87 = true := by kernel_rfl
set_option maxRecDepth 100000 in
theorem plan_ok88 : bodyOk plans 88 Try.f88 = true := by kernel_rfl
set_option maxRecDepth 100000 in
theorem plan_ok89 : bodyOk plans 89 Try.f89 = true := by kernel_rfl
set_option maxRecDepth 100000 in
theorem plan_ok90 : bodyOk plans 90 Try.f90 = true := by kernel_rfl
set_option maxRecDepth 100000 in
theorem plan_ok91 : bodyOk plans 91 Try.f91 = true := by kernel_rfl
set_option maxRecDepth 100000 in
theorem plan_ok96 : bodyOk plans 96 Try.f96 = true := by kernel_rfl
set_option maxRecDepth 100000 in
theorem plan_ok103 : bodyOk plans 103 Try.f103 = true := by kernel_rfl
set_option maxRecDepth 100000 in
theorem plan_ok104 : bodyOk plans 104 Try.f104 = true := by kernel_rfl
set_option maxRecDepth 100000 in
theorem plan_ok109 : bodyOk plans 109 Try.f109 = true := by kernel_rfl
set_option maxRecDepth 100000 in
theorem plan_ok110 : bodyOk plans 110 Try.f110 = true := by kernel_rfl
set_option maxRecDepth 100000 in
theorem plan_ok112 : bodyOk plans 112 Try.f112 = true := by kernel_rfl
set_option maxRecDepth 100000 in
theorem plan_ok116 : bodyOk plans 116 Try.f116 = true := by kernel_rfl
def planFs : List Nat := [5, 6, 7, 10, 11, 12, 16, 17, 18, 23, 24, 27, 28, 34, 43, 44, 45, 46, 48, 50, 51, 52, 54, 55, 56, 57, 58, 59, 60, 61, 62, 66, 67, 68, 83, 84, 85, 87, 88, 89, 90, 91, 96, 103, 104, 109, 110, 112, 116]
set_option maxRecDepth 100000 in
theorem plans_rest : (Try.prog.funcs.toList.zipIdx.all fun x => planFs.contains x.2 || bodyOk plans x.2 x.1) = true := by kernel_rfl
theorem plans_ok : PlansOk Try.prog plans := by
  have key : ∀ f fn, Try.prog.funcs[f]? = some fn → bodyOk plans f fn = true := by
    intro f fn hf
    have h := List.all_eq_true.1 plans_rest (fn, f) (by rw [List.mem_zipIdx_iff_getElem?]; simpa using hf)
    simp only [Bool.or_eq_true] at h
    rcases h with h | h
    · have h := List.contains_iff_mem.1 h
      simp only [planFs, List.mem_cons, List.not_mem_nil, or_false] at h
      rcases h with rfl | rfl | rfl | rfl | rfl | rfl | rfl | rfl | rfl | rfl | rfl | rfl | rfl | rfl | rfl | rfl | rfl | rfl | rfl | rfl | rfl | rfl | rfl | rfl | rfl | rfl | rfl | rfl | rfl | rfl | rfl | rfl | rfl | rfl | rfl | rfl | rfl | rfl | rfl | rfl | rfl | rfl | rfl | rfl | rfl | rfl | rfl | rfl | rfl
      · rw [Try.func5] at hf; cases hf; exact plan_ok5
      · rw [Try.func6] at hf; cases hf; exact plan_ok6
      · rw [Try.func7] at hf; cases hf; exact plan_ok7
      · rw [Try.func10] at hf; cases hf; exact plan_ok10
      · rw [Try.func11] at hf; cases hf; exact plan_ok11
      · rw [Try.func12] at hf; cases hf; exact plan_ok12
      · rw [Try.func16] at hf; cases hf; exact plan_ok16
      · rw [Try.func17] at hf; cases hf; exact plan_ok17
      · rw [Try.func18] at hf; cases hf; exact plan_ok18
      · rw [Try.func23] at hf; cases hf; exact plan_ok23
      · rw [Try.func24] at hf; cases hf; exact plan_ok24
      · rw [Try.func27] at hf; cases hf; exact plan_ok27
      · rw [Try.func28] at hf; cases hf; exact plan_ok28
      · rw [Try.func34] at hf; cases hf; exact plan_ok34
      · rw [Try.func43] at hf; cases hf; exact plan_ok43
      · rw [Try.func44] at hf; cases hf; exact plan_ok44
      · rw [Try.func45] at hf; cases hf; exact plan_ok45
      · rw [Try.func46] at hf; cases hf; exact plan_ok46
      · rw [Try.func48] at hf; cases hf; exact plan_ok48
      · rw [Try.func50] at hf; cases hf; exact plan_ok50
      · rw [Try.func51] at hf; cases hf; exact plan_ok51
      · rw [Try.func52] at hf; cases hf; exact plan_ok52
      · rw [Try.func54] at hf; cases hf; exact plan_ok54
      · rw [Try.func55] at hf; cases hf; exact plan_ok55
      · rw [Try.func56] at hf; cases hf; exact plan_ok56
      · rw [Try.func57] at hf; cases hf; exact plan_ok57
      · rw [Try.func58] at hf; cases hf; exact plan_ok58
      · rw [Try.func59] at hf; cases hf; exact plan_ok59
      · rw [Try.func60] at hf; cases hf; exact plan_ok60
      · rw [Try.func61] at hf; cases hf; exact plan_ok61
      · rw [Try.func62] at hf; cases hf; exact plan_ok62
      · rw [Try.func66] at hf; cases hf; exact plan_ok66
      · rw [Try.func67] at hf; cases hf; exact plan_ok67
      · rw [Try.func68] at hf; cases hf; exact plan_ok68
      · rw [Try.func83] at hf; cases hf; exact plan_ok83
      · rw [Try.func84] at hf; cases hf; exact plan_ok84
      · rw [Try.func85] at hf; cases hf; exact plan_ok85
      · rw [Try.func87] at hf; cases hf; exact plan_ok87
      · rw [Try.func88] at hf; cases hf; exact plan_ok88
      · rw [Try.func89] at hf; cases hf; exact plan_ok89
      · rw [Try.func90] at hf; cases hf; exact plan_ok90
      · rw [Try.func91] at hf; cases hf; exact plan_ok91
      · rw [Try.func96] at hf; cases hf; exact plan_ok96
      · rw [Try.func103] at hf; cases hf; exact plan_ok103
      · rw [Try.func104] at hf; cases hf; exact plan_ok104
      · rw [Try.func109] at hf; cases hf; exact plan_ok109
      · rw [Try.func110] at hf; cases hf; exact plan_ok110
      · rw [Try.func112] at hf; cases hf; exact plan_ok112
      · rw [Try.func116] at hf; cases hf; exact plan_ok116
    · exact h
  intro f fn c hf hc
  simpa [bodyOk, hc] using key f fn hf

end Go.Proofs.Ytdklpcjipkhenaa

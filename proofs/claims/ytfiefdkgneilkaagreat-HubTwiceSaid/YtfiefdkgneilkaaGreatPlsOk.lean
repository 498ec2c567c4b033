/-
  The plans serve every region that draws its order. Printed by plans.py.
-/
import Derived.Test.YtfiefdkgneilkaaGreatSxs
import Derived.Test.YtfiefdkgneilkaaGreatProg
import Derived.Test.YtfiefdkgneilkaaGreatPls
set_option linter.unusedVariables false
set_option linter.unusedSimpArgs false
namespace Go.Proofs.YtfiefdkgneilkaaGreat
open Go

theorem follows_mixed : Tryz.prog.follows .mixedOrders = true := by kernel_rfl
def bodyOk (pl : Plans) (f : FuncId) (fn : Func) : Bool := match fn.body with
  | some c => codeOk pl f c
  | none => true
set_option maxRecDepth 100000 in
theorem plan_ok20 : bodyOk plans 20 Tryz.f20 = true := by kernel_rfl
set_option maxRecDepth 100000 in
theorem plan_ok24 : bodyOk plans 24 Tryz.f24 = true := by kernel_rfl
set_option maxRecDepth 100000 in
theorem plan_ok27 : bodyOk plans 27 Tryz.f27 = true := by kernel_rfl
set_option maxRecDepth 100000 in
theorem plan_ok74 : bodyOk plans 74 Tryz.f74 = true := by kernel_rfl
set_option maxRecDepth 100000 in
theorem plan_ok76 : bodyOk plans 76 Tryz.f76 = true := by kernel_rfl
set_option maxRecDepth 100000 in
theorem plan_ok77 : bodyOk plans 77 Tryz.f77 = true := by kernel_rfl
set_option maxRecDepth 100000 in
theorem plan_ok81 : bodyOk plans 81 Tryz.f81 = true := by kernel_rfl
set_option maxRecDepth 100000 in
theorem plan_ok85 : bodyOk plans 85 Tryz.f85 = true := by kernel_rfl
set_option maxRecDepth 100000 in
theorem plan_ok87 : bodyOk plans 87 Tryz.f87 = true := by kernel_rfl
set_option maxRecDepth 100000 in
theorem plan_ok90 : bodyOk plans 90 Tryz.f90 = true := by kernel_rfl
set_option maxRecDepth 100000 in
theorem plan_ok156 : bodyOk plans 156 Tryz.f156 = true := by kernel_rfl
set_option maxRecDepth 100000 in
theorem plan_ok160 : bodyOk plans 160 Tryz.f160 = true := by kernel_rfl
set_option maxRecDepth 100000 in
theorem plan_ok161 : bodyOk plans 161 Tryz.f161 = true := by kernel_rfl
set_option maxRecDepth 100000 in
theorem plan_ok163 : bodyOk plans 163 Tryz.f163 = true := by kernel_rfl
set_option maxRecDepth 100000 in
theorem plan_ok165 : bodyOk plans 165 Tryz.f165 = true := by kernel_rfl
set_option maxRecDepth 100000 in
theorem plan_ok367 : bodyOk plans 367 Tryz.f367 = true := by kernel_rfl
def planFs : List Nat := [20, 24, 27, 74, 76, 77, 81, 85, 87, 90, 156, 160, 161, 163, 165, 367]
set_option maxRecDepth 100000 in
theorem plans_rest : (Tryz.prog.funcs.toList.zipIdx.all fun x => planFs.contains x.2 || bodyOk plans x.2 x.1) = true := by kernel_rfl
theorem plans_ok : PlansOk Tryz.prog plans := by
  have key : ∀ f fn, Tryz.prog.funcs[f]? = some fn → bodyOk plans f fn = true := by
    intro f fn hf
    have h := List.all_eq_true.1 plans_rest (fn, f) (by rw [List.mem_zipIdx_iff_getElem?]; simpa using hf)
    simp only [Bool.or_eq_true] at h
    rcases h with h | h
    · have h := List.contains_iff_mem.1 h
      simp only [planFs, List.mem_cons, List.not_mem_nil, or_false] at h
      rcases h with rfl | rfl | rfl | rfl | rfl | rfl | rfl | rfl | rfl | rfl | rfl | rfl | rfl | rfl | rfl | rfl
      · rw [Tryz.func20] at hf; cases hf; exact plan_ok20
      · rw [Tryz.func24] at hf; cases hf; exact plan_ok24
      · rw [Tryz.func27] at hf; cases hf; exact plan_ok27
      · rw [Tryz.func74] at hf; cases hf; exact plan_ok74
      · rw [Tryz.func76] at hf; cases hf; exact plan_ok76
      · rw [Tryz.func77] at hf; cases hf; exact plan_ok77
      · rw [Tryz.func81] at hf; cases hf; exact plan_ok81
      · rw [Tryz.func85] at hf; cases hf; exact plan_ok85
      · rw [Tryz.func87] at hf; cases hf; exact plan_ok87
      · rw [Tryz.func90] at hf; cases hf; exact plan_ok90
      · rw [Tryz.func156] at hf; cases hf; exact plan_ok156
      · rw [Tryz.func160] at hf; cases hf; exact plan_ok160
      · rw [Tryz.func161] at hf; cases hf; exact plan_ok161
      · rw [Tryz.func163] at hf; cases hf; exact plan_ok163
      · rw [Tryz.func165] at hf; cases hf; exact plan_ok165
      · rw [Tryz.func367] at hf; cases hf; exact plan_ok367
    · exact h
  intro f fn c hf hc
  simpa [bodyOk, hc] using key f fn hf

end Go.Proofs.YtfiefdkgneilkaaGreat

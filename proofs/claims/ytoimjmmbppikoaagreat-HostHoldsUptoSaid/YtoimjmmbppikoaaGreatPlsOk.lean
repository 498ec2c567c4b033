/-
  The plans serve every region that draws its order. Printed by plans.py.
-/
import Derived.Test.YtoimjmmbppikoaaGreatCe
import Derived.Test.YtoimjmmbppikoaaGreatProg
import Derived.Test.YtoimjmmbppikoaaGreatPls
set_option linter.unusedVariables false
set_option linter.unusedSimpArgs false
namespace Go.Proofs.YtoimjmmbppikoaaGreat
open Go

theorem follows_mixed : Tryz.prog.follows .mixedOrders = true := by kernel_rfl
def bodyOk (pl : Plans) (f : FuncId) (fn : Func) : Bool := match fn.body with
  | some c => codeOk pl f c
  | none => true
set_option maxRecDepth 100000 in
theorem plan_ok3 : bodyOk plans 3 Tryz.f3 = true := by kernel_rfl
set_option maxRecDepth 100000 in
theorem plan_ok8 : bodyOk plans 8 Tryz.f8 = true := by kernel_rfl
set_option maxRecDepth 100000 in
theorem plan_ok10 : bodyOk plans 10 Tryz.f10 = true := by kernel_rfl
set_option maxRecDepth 100000 in
theorem plan_ok12 : bodyOk plans 12 Tryz.f12 = true := by kernel_rfl
set_option maxRecDepth 100000 in
theorem plan_ok13 : bodyOk plans 13 Tryz.f13 = true := by kernel_rfl
set_option maxRecDepth 100000 in
theorem plan_ok14 : bodyOk plans 14 Tryz.f14 = true := by kernel_rfl
set_option maxRecDepth 100000 in
theorem plan_ok15 : bodyOk plans 15 Tryz.f15 = true := by kernel_rfl
set_option maxRecDepth 100000 in
theorem plan_ok16 : bodyOk plans 16 Tryz.f16 = true := by kernel_rfl
set_option maxRecDepth 100000 in
theorem plan_ok17 : bodyOk plans 17 Tryz.f17 = true := by kernel_rfl
set_option maxRecDepth 100000 in
theorem plan_ok20 : bodyOk plans 20 Tryz.f20 = true := by kernel_rfl
set_option maxRecDepth 100000 in
theorem plan_ok21 : bodyOk plans 21 Tryz.f21 = true := by kernel_rfl
set_option maxRecDepth 100000 in
theorem plan_ok23 : bodyOk plans 23 Tryz.f23 = true := by kernel_rfl
set_option maxRecDepth 100000 in
theorem plan_ok26 : bodyOk plans 26 Tryz.f26 = true := by kernel_rfl
set_option maxRecDepth 100000 in
theorem plan_ok31 : bodyOk plans 31 Tryz.f31 = true := by kernel_rfl
set_option maxRecDepth 100000 in
theorem plan_ok33 : bodyOk plans 33 Tryz.f33 = true := by kernel_rfl
set_option maxRecDepth 100000 in
theorem plan_ok36 : bodyOk plans 36 Tryz.f36 = true := by kernel_rfl
set_option maxRecDepth 100000 in
theorem plan_ok39 : bodyOk plans 39 Tryz.f39 = true := by kernel_rfl
set_option maxRecDepth 100000 in
theorem plan_ok40 : bodyOk plans 40 Tryz.f40 = true := by kernel_rfl
set_option maxRecDepth 100000 in
theorem plan_ok42 : bodyOk plans 42 Tryz.f42 = true := by kernel_rfl
set_option maxRecDepth 100000 in
theorem plan_ok43 : bodyOk plans 43 Tryz.f43 = true := by kernel_rfl
set_option maxRecDepth 100000 in
theorem plan_ok45 : bodyOk plans 45 Tryz.f45 = true := by kernel_rfl
set_option maxRecDepth 100000 in
theorem plan_ok46 : bodyOk plans 46 Tryz.f46 = true := by kernel_rfl
set_option maxRecDepth 100000 in
theorem plan_ok47 : bodyOk plans 47 Tryz.f47 = true := by kernel_rfl
set_option maxRecDepth 100000 in
theorem plan_ok65 : bodyOk plans 65 Tryz.f65 = true := by kernel_rfl
set_option maxRecDepth 100000 in
theorem plan_ok69 : bodyOk plans 69 Tryz.f69 = true := by kernel_rfl
set_option maxRecDepth 100000 in
theorem plan_ok70 : bodyOk plans 70 Tryz.f70 = true := by kernel_rfl
set_option maxRecDepth 100000 in
theorem plan_ok71 : bodyOk plans 71 Tryz.f71 = true := by kernel_rfl
set_option maxRecDepth 100000 in
theorem plan_ok72 : bodyOk plans 72 Tryz.f72 = true := by kernel_rfl
set_option maxRecDepth 100000 in
theorem plan_ok75 : bodyOk plans 75 Tryz.f75 = true := by kernel_rfl
set_option maxRecDepth 100000 in
theorem plan_ok86 : bodyOk plans 86 Tryz.f86 = true := by kernel_rfl
set_option maxRecDepth 100000 in
theorem plan_ok88 : bodyOk plans 88 Tryz.f88 = true := by kernel_rfl
set_option maxRecDepth 100000 in
theorem plan_ok92 : bodyOk plans 92 Tryz.f92 = true := by kernel_rfl
set_option maxRecDepth 100000 in
theorem plan_ok94 : bodyOk plans 94 Tryz.f94 = true := by kernel_rfl
set_option maxRecDepth 100000 in
theorem plan_ok95 : bodyOk plans 95 Tryz.f95 = true := by kernel_rfl
set_option maxRecDepth 100000 in
theorem plan_ok96 : bodyOk plans 96 Tryz.f96 = true := by kernel_rfl
set_option maxRecDepth 100000 in
theorem plan_ok97 : bodyOk plans 97 Tryz.f97 = true := by kernel_rfl
set_option maxRecDepth 100000 in
theorem plan_ok98 : bodyOk plans 98 Tryz.f98 = true := by kernel_rfl
set_option maxRecDepth 100000 in
theorem plan_ok99 : bodyOk plans 99 Tryz.f99 = true := by kernel_rfl
set_option maxRecDepth 100000 in
theorem plan_ok100 : bodyOk plans 100 Tryz.f100 = true := by kernel_rfl
set_option maxRecDepth 100000 in
theorem plan_ok103 : bodyOk plans 103 Tryz.f103 = true := by kernel_rfl
set_option maxRecDepth 100000 in
theorem plan_ok106 : bodyOk plans 106 Tryz.f106 = true := by kernel_rfl
set_option maxRecDepth 100000 in
theorem plan_ok107 : bodyOk plans 107 Tryz.f107 = true := by kernel_rfl
set_option maxRecDepth 100000 in
theorem plan_ok108 : bodyOk plans 108 Tryz.f108 = true := by kernel_rfl
set_option maxRecDepth 100000 in
theorem plan_ok109 : bodyOk plans 109 Tryz.f109 = true := by kernel_rfl
set_option maxRecDepth 100000 in
theorem plan_ok110 : bodyOk plans 110 Tryz.f110 = true := by kernel_rfl
set_option maxRecDepth 100000 in
theorem plan_ok113 : bodyOk plans 113 Tryz.f113 = true := by kernel_rfl
set_option maxRecDepth 100000 in
theorem plan_ok121 : bodyOk plans 121 Tryz.f121 = true := by kernel_rfl
set_option maxRecDepth 100000 in
theorem plan_ok124 : bodyOk plans 124 Tryz.f124 = true := by kernel_rfl
set_option maxRecDepth 100000 in
theorem plan_ok139 : bodyOk plans 139 Tryz.f139 = true := by kernel_rfl
set_option maxRecDepth 100000 in
theorem plan_ok140 : bodyOk plans 140 Tryz.f140 = true := by kernel_rfl
set_option maxRecDepth 100000 in
theorem plan_ok144 : bodyOk plans 144 Tryz.f144 = true := by kernel_rfl
set_option maxRecDepth 100000 in
theorem plan_ok145 : bodyOk plans 145 Tryz.f145 = true := by kernel_rfl
set_option maxRecDepth 100000 in
theorem plan_ok153 : bodyOk plans 153 Tryz.f153 = true := by kernel_rfl
set_option maxRecDepth 100000 in
theorem plan_ok157 : bodyOk plans 157 Tryz.f157 = true := by kernel_rfl
set_option maxRecDepth 100000 in
theorem plan_ok159 : bodyOk plans 159 Tryz.f159 = true := by kernel_rfl
set_option maxRecDepth 100000 in
theorem plan_ok160 : bodyOk plans 160 Tryz.f160 = true := by kernel_rfl
set_option maxRecDepth 100000 in
theorem plan_ok163 : bodyOk plans 163 Tryz.f163 = true := by kernel_rfl
set_option maxRecDepth 100000 in
theorem plan_ok168 : bodyOk plans 168 Tryz.f168 = true := by kernel_rfl
set_option maxRecDepth 100000 in
theorem plan_ok169 : bodyOk plans 169 Tryz.f169 = true := by kernel_rfl
set_option maxRecDepth 100000 in
theorem plan_ok170 : bodyOk plans 170 Tryz.f170 = true := by kernel_rfl
set_option maxRecDepth 100000 in
theorem plan_ok171 : bodyOk plans 171 Tryz.f171 = true := by kernel_rfl
set_option maxRecDepth 100000 in
theorem plan_ok172 : bodyOk plans 172 Tryz.f172 = true := by kernel_rfl
set_option maxRecDepth 100000 in
theorem plan_ok173 : bodyOk plans 173 Tryz.f173 = true := by kernel_rfl
set_option maxRecDepth 100000 in
theorem plan_ok174 : bodyOk plans 174 Tryz.f174 = true := by kernel_rfl
set_option maxRecDepth 100000 in
theorem plan_ok182 : bodyOk plans 182 Tryz.f182 = true := by kernel_rfl
set_option maxRecDepth 100000 in
theorem plan_ok183 : bodyOk plans 183 Tryz.f183 = true := by kernel_rfl
set_option maxRecDepth 100000 in
theorem plan_ok190 : bodyOk plans 190 Tryz.f190 = true := by kernel_rfl
set_option maxRecDepth 100000 in
theorem plan_ok192 : bodyOk plans 192 Tryz.f192 = true := by kernel_rfl
set_option maxRecDepth 100000 in
theorem plan_ok193 : bodyOk plans 193 Tryz.f193 = true := by kernel_rfl
set_option maxRecDepth 100000 in
theorem plan_ok194 : bodyOk plans 194 Tryz.f194 = true := by kernel_rfl
set_option maxRecDepth 100000 in
theorem plan_ok196 : bodyOk plans 196 Tryz.f196 = true := by kernel_rfl
set_option maxRecDepth 100000 in
theorem plan_ok200 : bodyOk plans 200 Tryz.f200 = true := by kernel_rfl
set_option maxRecDepth 100000 in
theorem plan_ok201 : bodyOk plans 201 Tryz.f201 = true := by kernel_rfl
set_option maxRecDepth 100000 in
theorem plan_ok202 : bodyOk plans 202 Tryz.f202 = true := by kernel_rfl
set_option maxRecDepth 100000 in
theorem plan_ok203 : bodyOk plans 203 Tryz.f203 = true := by kernel_rfl
set_option maxRecDepth 100000 in
theorem plan_ok205 : bodyOk plans 205 Tryz.f205 = true := by kernel_rfl
set_option maxRecDepth 100000 in
theorem plan_ok210 : bodyOk plans 210 Tryz.f210 = true := by kernel_rfl
set_option maxRecDepth 100000 in
theorem plan_ok213 : bodyOk plans 213 Tryz.f213 = true := by kernel_rfl
set_option maxRecDepth 100000 in
theorem plan_ok214 : bodyOk plans 214 Tryz.f214 = true := by kernel_rfl
set_option maxRecDepth 100000 in
theorem plan_ok215 : bodyOk plans 215 Tryz.f215 = true := by kernel_rfl
set_option maxRecDepth 100000 in
theorem plan_ok216 : bodyOk plans 216 Tryz.f216 = true := by kernel_rfl
set_option maxRecDepth 100000 in
theorem plan_ok219 : bodyOk plans 219 Tryz.f219 = true := by kernel_rfl
set_option maxRecDepth 100000 in
theorem plan_ok223 : bodyOk plans 223 Tryz.f223 = true := by kernel_rfl
set_option maxRecDepth 100000 in
theorem plan_ok224 : bodyOk plans 224 Tryz.f224 = true := by kernel_rfl
set_option maxRecDepth 100000 in
theorem plan_ok225 : bodyOk plans 225 Tryz.f225 = true := by kernel_rfl
set_option maxRecDepth 100000 in
theorem plan_ok232 : bodyOk plans 232 Tryz.f232 = true := by kernel_rfl
set_option maxRecDepth 100000 in
theorem plan_ok233 : bodyOk plans 233 Tryz.f233 = true := by kernel_rfl
set_option maxRecDepth 100000 in
theorem plan_ok234 : bodyOk plans 234 Tryz.f234 = true := by kernel_rfl
set_option maxRecDepth 100000 in
theorem plan_ok235 : bodyOk plans 235 Tryz.f235 = true := by kernel_rfl
set_option maxRecDepth 100000 in
theorem plan_ok236 : bodyOk plans 236 Tryz.f236 = true := by kernel_rfl
set_option maxRecDepth 100000 in
theorem plan_ok238 : bodyOk plans 238 Tryz.f238 = true := by kernel_rfl
set_option maxRecDepth 100000 in
theorem plan_ok239 : bodyOk plans 239 Tryz.f239 = true := by kernel_rfl
set_option maxRecDepth 100000 in
theorem plan_ok240 : bodyOk plans 240 Tryz.f240 = true := by kernel_rfl
set_option maxRecDepth 100000 in
theorem plan_ok242 : bodyOk plans 242 Tryz.f242 = true := by kernel_rfl
set_option maxRecDepth 100000 in
theorem plan_ok243 : bodyOk plans 243 Tryz.f243 = true := by kernel_rfl
set_option maxRecDepth 100000 in
theorem plan_ok244 : bodyOk plans 244 Tryz.f244 = true := by kernel_rfl
set_option maxRecDepth 100000 in
theorem plan_ok245 : bodyOk plans 245 Tryz.f245 = true := by kernel_rfl
set_option maxRecDepth 100000 in
theorem plan_ok252 : bodyOk plans 252 Tryz.f252 = true := by kernel_rfl
set_option maxRecDepth 100000 in
theorem plan_ok253 : bodyOk plans 253 Tryz.f253 = true := by kernel_rfl
set_option maxRecDepth 100000 in
theorem plan_ok255 : bodyOk plans 255 Tryz.f255 = true := by kernel_rfl
set_option maxRecDepth 100000 in
theorem plan_ok258 : bodyOk plans 258 Tryz.f258 = true := by kernel_rfl
def planFs : List Nat := [3, 8, 10, 12, 13, 14, 15, 16, 17, 20, 21, 23, 26, 31, 33, 36, 39, 40, 42, 43, 45, 46, 47, 65, 69, 70, 71, 72, 75, 86, 88, 92, 94, 95, 96, 97, 98, 99, 100, 103, 106, 107, 108, 109, 110, 113, 121, 124, 139, 140, 144, 145, 153, 157, 159, 160, 163, 168, 169, 170, 171, 172, 173, 174, 182, 183, 190, 192, 193, 194, 196, 200, 201, 202, 203, 205, 210, 213, 214, 215, 216, 219, 223, 224, 225, 232, 233, 234, 235, 236, 238, 239, 240, 242, 243, 244, 245, 252, 253, 255, 258]
set_option maxRecDepth 100000 in
theorem plans_rest : (Tryz.prog.funcs.toList.zipIdx.all fun x => planFs.contains x.2 || bodyOk plans x.2 x.1) = true := by kernel_rfl
theorem plans_lot0 : ∀ f ∈ ([3, 8, 10, 12, 13, 14, 15, 16, 17, 20, 21, 23, 26, 31, 33, 36, 39, 40, 42, 43, 45, 46, 47, 65, 69, 70, 71, 72, 75, 86, 88, 92, 94, 95, 96, 97, 98, 99, 100, 103] : List Nat), ∀ fn, Tryz.prog.funcs[f]? = some fn → bodyOk plans f fn = true := by
  refine List.forall_mem_cons.2 ⟨fun fn hf => ?_, ?_⟩
  · rw [Tryz.func3] at hf; cases hf; exact plan_ok3
  refine List.forall_mem_cons.2 ⟨fun fn hf => ?_, ?_⟩
  · rw [Tryz.func8] at hf; cases hf; exact plan_ok8
  refine List.forall_mem_cons.2 ⟨fun fn hf => ?_, ?_⟩
  · rw [Tryz.func10] at hf; cases hf; exact plan_ok10
  refine List.forall_mem_cons.2 ⟨fun fn hf => ?_, ?_⟩
  · rw [Tryz.func12] at hf; cases hf; exact plan_ok12
  refine List.forall_mem_cons.2 ⟨fun fn hf => ?_, ?_⟩
  · rw [Tryz.func13] at hf; cases hf; exact plan_ok13
  refine List.forall_mem_cons.2 ⟨fun fn hf => ?_, ?_⟩
  · rw [Tryz.func14] at hf; cases hf; exact plan_ok14
  refine List.forall_mem_cons.2 ⟨fun fn hf => ?_, ?_⟩
  · rw [Tryz.func15] at hf; cases hf; exact plan_ok15
  refine List.forall_mem_cons.2 ⟨fun fn hf => ?_, ?_⟩
  · rw [Tryz.func16] at hf; cases hf; exact plan_ok16
  refine List.forall_mem_cons.2 ⟨fun fn hf => ?_, ?_⟩
  · rw [Tryz.func17] at hf; cases hf; exact plan_ok17
  refine List.forall_mem_cons.2 ⟨fun fn hf => ?_, ?_⟩
  · rw [Tryz.func20] at hf; cases hf; exact plan_ok20
  refine List.forall_mem_cons.2 ⟨fun fn hf => ?_, ?_⟩
  · rw [Tryz.func21] at hf; cases hf; exact plan_ok21
  refine List.forall_mem_cons.2 ⟨fun fn hf => ?_, ?_⟩
  · rw [Tryz.func23] at hf; cases hf; exact plan_ok23
  refine List.forall_mem_cons.2 ⟨fun fn hf => ?_, ?_⟩
  · rw [Tryz.func26] at hf; cases hf; exact plan_ok26
  refine List.forall_mem_cons.2 ⟨fun fn hf => ?_, ?_⟩
  · rw [Tryz.func31] at hf; cases hf; exact plan_ok31
  refine List.forall_mem_cons.2 ⟨fun fn hf => ?_, ?_⟩
  · rw [Tryz.func33] at hf; cases hf; exact plan_ok33
  refine List.forall_mem_cons.2 ⟨fun fn hf => ?_, ?_⟩
  · rw [Tryz.func36] at hf; cases hf; exact plan_ok36
  refine List.forall_mem_cons.2 ⟨fun fn hf => ?_, ?_⟩
  · rw [Tryz.func39] at hf; cases hf; exact plan_ok39
  refine List.forall_mem_cons.2 ⟨fun fn hf => ?_, ?_⟩
  · rw [Tryz.func40] at hf; cases hf; exact plan_ok40
  refine List.forall_mem_cons.2 ⟨fun fn hf => ?_, ?_⟩
  · rw [Tryz.func42] at hf; cases hf; exact plan_ok42
  refine List.forall_mem_cons.2 ⟨fun fn hf => ?_, ?_⟩
  · rw [Tryz.func43] at hf; cases hf; exact plan_ok43
  refine List.forall_mem_cons.2 ⟨fun fn hf => ?_, ?_⟩
  · rw [Tryz.func45] at hf; cases hf; exact plan_ok45
  refine List.forall_mem_cons.2 ⟨fun fn hf => ?_, ?_⟩
  · rw [Tryz.func46] at hf; cases hf; exact plan_ok46
  refine List.forall_mem_cons.2 ⟨fun fn hf => ?_, ?_⟩
  · rw [Tryz.func47] at hf; cases hf; exact plan_ok47
  refine List.forall_mem_cons.2 ⟨fun fn hf => ?_, ?_⟩
  · rw [Tryz.func65] at hf; cases hf; exact plan_ok65
  refine List.forall_mem_cons.2 ⟨fun fn hf => ?_, ?_⟩
  · rw [Tryz.func69] at hf; cases hf; exact plan_ok69
  refine List.forall_mem_cons.2 ⟨fun fn hf => ?_, ?_⟩
  · rw [Tryz.func70] at hf; cases hf; exact plan_ok70
  refine List.forall_mem_cons.2 ⟨fun fn hf => ?_, ?_⟩
  · rw [Tryz.func71] at hf; cases hf; exact plan_ok71
  refine List.forall_mem_cons.2 ⟨fun fn hf => ?_, ?_⟩
  · rw [Tryz.func72] at hf; cases hf; exact plan_ok72
  refine List.forall_mem_cons.2 ⟨fun fn hf => ?_, ?_⟩
  · rw [Tryz.func75] at hf; cases hf; exact plan_ok75
  refine List.forall_mem_cons.2 ⟨fun fn hf => ?_, ?_⟩
  · rw [Tryz.func86] at hf; cases hf; exact plan_ok86
  refine List.forall_mem_cons.2 ⟨fun fn hf => ?_, ?_⟩
  · rw [Tryz.func88] at hf; cases hf; exact plan_ok88
  refine List.forall_mem_cons.2 ⟨fun fn hf => ?_, ?_⟩
  · rw [Tryz.func92] at hf; cases hf; exact plan_ok92
  refine List.forall_mem_cons.2 ⟨fun fn hf => ?_, ?_⟩
  · rw [Tryz.func94] at hf; cases hf; exact plan_ok94
  refine List.forall_mem_cons.2 ⟨fun fn hf => ?_, ?_⟩
  · rw [Tryz.func95] at hf; cases hf; exact plan_ok95
  refine List.forall_mem_cons.2 ⟨fun fn hf => ?_, ?_⟩
  · rw [Tryz.func96] at hf; cases hf; exact plan_ok96
  refine List.forall_mem_cons.2 ⟨fun fn hf => ?_, ?_⟩
  · rw [Tryz.func97] at hf; cases hf; exact plan_ok97
  refine List.forall_mem_cons.2 ⟨fun fn hf => ?_, ?_⟩
  · rw [Tryz.func98] at hf; cases hf; exact plan_ok98
  refine List.forall_mem_cons.2 ⟨fun fn hf => ?_, ?_⟩
  · rw [Tryz.func99] at hf; cases hf; exact plan_ok99
  refine List.forall_mem_cons.2 ⟨fun fn hf => ?_, ?_⟩
  · rw [Tryz.func100] at hf; cases hf; exact plan_ok100
  refine List.forall_mem_cons.2 ⟨fun fn hf => ?_, ?_⟩
  · rw [Tryz.func103] at hf; cases hf; exact plan_ok103
  exact fun x hx => by cases hx
theorem plans_lot1 : ∀ f ∈ ([106, 107, 108, 109, 110, 113, 121, 124, 139, 140, 144, 145, 153, 157, 159, 160, 163, 168, 169, 170, 171, 172, 173, 174, 182, 183, 190, 192, 193, 194, 196, 200, 201, 202, 203, 205, 210, 213, 214, 215] : List Nat), ∀ fn, Tryz.prog.funcs[f]? = some fn → bodyOk plans f fn = true := by
  refine List.forall_mem_cons.2 ⟨fun fn hf => ?_, ?_⟩
  · rw [Tryz.func106] at hf; cases hf; exact plan_ok106
  refine List.forall_mem_cons.2 ⟨fun fn hf => ?_, ?_⟩
  · rw [Tryz.func107] at hf; cases hf; exact plan_ok107
  refine List.forall_mem_cons.2 ⟨fun fn hf => ?_, ?_⟩
  · rw [Tryz.func108] at hf; cases hf; exact plan_ok108
  refine List.forall_mem_cons.2 ⟨fun fn hf => ?_, ?_⟩
  · rw [Tryz.func109] at hf; cases hf; exact plan_ok109
  refine List.forall_mem_cons.2 ⟨fun fn hf => ?_, ?_⟩
  · rw [Tryz.func110] at hf; cases hf; exact plan_ok110
  refine List.forall_mem_cons.2 ⟨fun fn hf => ?_, ?_⟩
  · rw [Tryz.func113] at hf; cases hf; exact plan_ok113
  refine List.forall_mem_cons.2 ⟨fun fn hf => ?_, ?_⟩
  · rw [Tryz.func121] at hf; cases hf; exact plan_ok121
  refine List.forall_mem_cons.2 ⟨fun fn hf => ?_, ?_⟩
  · rw [Tryz.func124] at hf; cases hf; exact plan_ok124
  refine List.forall_mem_cons.2 ⟨fun fn hf => ?_, ?_⟩
  · rw [Tryz.func139] at hf; cases hf; exact plan_ok139
  refine List.forall_mem_cons.2 ⟨fun fn hf => ?_, ?_⟩
  · rw [Tryz.func140] at hf; cases hf; exact plan_ok140
  refine List.forall_mem_cons.2 ⟨fun fn hf => ?_, ?_⟩
  · rw [Tryz.func144] at hf; cases hf; exact plan_ok144
  refine List.forall_mem_cons.2 ⟨fun fn hf => ?_, ?_⟩
  · rw [Tryz.func145] at hf; cases hf; exact plan_ok145
  refine List.forall_mem_cons.2 ⟨fun fn hf => ?_, ?_⟩
  · rw [Tryz.func153] at hf; cases hf; exact plan_ok153
  refine List.forall_mem_cons.2 ⟨fun fn hf => ?_, ?_⟩
  · rw [Tryz.func157] at hf; cases hf; exact plan_ok157
  refine List.forall_mem_cons.2 ⟨fun fn hf => ?_, ?_⟩
  · rw [Tryz.func159] at hf; cases hf; exact plan_ok159
  refine List.forall_mem_cons.2 ⟨fun fn hf => ?_, ?_⟩
  · rw [Tryz.func160] at hf; cases hf; exact plan_ok160
  refine List.forall_mem_cons.2 ⟨fun fn hf => ?_, ?_⟩
  · rw [Tryz.func163] at hf; cases hf; exact plan_ok163
  refine List.forall_mem_cons.2 ⟨fun fn hf => ?_, ?_⟩
  · rw [Tryz.func168] at hf; cases hf; exact plan_ok168
  refine List.forall_mem_cons.2 ⟨fun fn hf => ?_, ?_⟩
  · rw [Tryz.func169] at hf; cases hf; exact plan_ok169
  refine List.forall_mem_cons.2 ⟨fun fn hf => ?_, ?_⟩
  · rw [Tryz.func170] at hf; cases hf; exact plan_ok170
  refine List.forall_mem_cons.2 ⟨fun fn hf => ?_, ?_⟩
  · rw [Tryz.func171] at hf; cases hf; exact plan_ok171
  refine List.forall_mem_cons.2 ⟨fun fn hf => ?_, ?_⟩
  · rw [Tryz.func172] at hf; cases hf; exact plan_ok172
  refine List.forall_mem_cons.2 ⟨fun fn hf => ?_, ?_⟩
  · rw [Tryz.func173] at hf; cases hf; exact plan_ok173
  refine List.forall_mem_cons.2 ⟨fun fn hf => ?_, ?_⟩
  · rw [Tryz.func174] at hf; cases hf; exact plan_ok174
  refine List.forall_mem_cons.2 ⟨fun fn hf => ?_, ?_⟩
  · rw [Tryz.func182] at hf; cases hf; exact plan_ok182
  refine List.forall_mem_cons.2 ⟨fun fn hf => ?_, ?_⟩
  · rw [Tryz.func183] at hf; cases hf; exact plan_ok183
  refine List.forall_mem_cons.2 ⟨fun fn hf => ?_, ?_⟩
  · rw [Tryz.func190] at hf; cases hf; exact plan_ok190
  refine List.forall_mem_cons.2 ⟨fun fn hf => ?_, ?_⟩
  · rw [Tryz.func192] at hf; cases hf; exact plan_ok192
  refine List.forall_mem_cons.2 ⟨fun fn hf => ?_, ?_⟩
  · rw [Tryz.func193] at hf; cases hf; exact plan_ok193
  refine List.forall_mem_cons.2 ⟨fun fn hf => ?_, ?_⟩
  · rw [Tryz.func194] at hf; cases hf; exact plan_ok194
  refine List.forall_mem_cons.2 ⟨fun fn hf => ?_, ?_⟩
  · rw [Tryz.func196] at hf; cases hf; exact plan_ok196
  refine List.forall_mem_cons.2 ⟨fun fn hf => ?_, ?_⟩
  · rw [Tryz.func200] at hf; cases hf; exact plan_ok200
  refine List.forall_mem_cons.2 ⟨fun fn hf => ?_, ?_⟩
  · rw [Tryz.func201] at hf; cases hf; exact plan_ok201
  refine List.forall_mem_cons.2 ⟨fun fn hf => ?_, ?_⟩
  · rw [Tryz.func202] at hf; cases hf; exact plan_ok202
  refine List.forall_mem_cons.2 ⟨fun fn hf => ?_, ?_⟩
  · rw [Tryz.func203] at hf; cases hf; exact plan_ok203
  refine List.forall_mem_cons.2 ⟨fun fn hf => ?_, ?_⟩
  · rw [Tryz.func205] at hf; cases hf; exact plan_ok205
  refine List.forall_mem_cons.2 ⟨fun fn hf => ?_, ?_⟩
  · rw [Tryz.func210] at hf; cases hf; exact plan_ok210
  refine List.forall_mem_cons.2 ⟨fun fn hf => ?_, ?_⟩
  · rw [Tryz.func213] at hf; cases hf; exact plan_ok213
  refine List.forall_mem_cons.2 ⟨fun fn hf => ?_, ?_⟩
  · rw [Tryz.func214] at hf; cases hf; exact plan_ok214
  refine List.forall_mem_cons.2 ⟨fun fn hf => ?_, ?_⟩
  · rw [Tryz.func215] at hf; cases hf; exact plan_ok215
  exact fun x hx => by cases hx
theorem plans_lot2 : ∀ f ∈ ([216, 219, 223, 224, 225, 232, 233, 234, 235, 236, 238, 239, 240, 242, 243, 244, 245, 252, 253, 255, 258] : List Nat), ∀ fn, Tryz.prog.funcs[f]? = some fn → bodyOk plans f fn = true := by
  refine List.forall_mem_cons.2 ⟨fun fn hf => ?_, ?_⟩
  · rw [Tryz.func216] at hf; cases hf; exact plan_ok216
  refine List.forall_mem_cons.2 ⟨fun fn hf => ?_, ?_⟩
  · rw [Tryz.func219] at hf; cases hf; exact plan_ok219
  refine List.forall_mem_cons.2 ⟨fun fn hf => ?_, ?_⟩
  · rw [Tryz.func223] at hf; cases hf; exact plan_ok223
  refine List.forall_mem_cons.2 ⟨fun fn hf => ?_, ?_⟩
  · rw [Tryz.func224] at hf; cases hf; exact plan_ok224
  refine List.forall_mem_cons.2 ⟨fun fn hf => ?_, ?_⟩
  · rw [Tryz.func225] at hf; cases hf; exact plan_ok225
  refine List.forall_mem_cons.2 ⟨fun fn hf => ?_, ?_⟩
  · rw [Tryz.func232] at hf; cases hf; exact plan_ok232
  refine List.forall_mem_cons.2 ⟨fun fn hf => ?_, ?_⟩
  · rw [Tryz.func233] at hf; cases hf; exact plan_ok233
  refine List.forall_mem_cons.2 ⟨fun fn hf => ?_, ?_⟩
  · rw [Tryz.func234] at hf; cases hf; exact plan_ok234
  refine List.forall_mem_cons.2 ⟨fun fn hf => ?_, ?_⟩
  · rw [Tryz.func235] at hf; cases hf; exact plan_ok235
  refine List.forall_mem_cons.2 ⟨fun fn hf => ?_, ?_⟩
  · rw [Tryz.func236] at hf; cases hf; exact plan_ok236
  refine List.forall_mem_cons.2 ⟨fun fn hf => ?_, ?_⟩
  · rw [Tryz.func238] at hf; cases hf; exact plan_ok238
  refine List.forall_mem_cons.2 ⟨fun fn hf => ?_, ?_⟩
  · rw [Tryz.func239] at hf; cases hf; exact plan_ok239
  refine List.forall_mem_cons.2 ⟨fun fn hf => ?_, ?_⟩
  · rw [Tryz.func240] at hf; cases hf; exact plan_ok240
  refine List.forall_mem_cons.2 ⟨fun fn hf => ?_, ?_⟩
  · rw [Tryz.func242] at hf; cases hf; exact plan_ok242
  refine List.forall_mem_cons.2 ⟨fun fn hf => ?_, ?_⟩
  · rw [Tryz.func243] at hf; cases hf; exact plan_ok243
  refine List.forall_mem_cons.2 ⟨fun fn hf => ?_, ?_⟩
  · rw [Tryz.func244] at hf; cases hf; exact plan_ok244
  refine List.forall_mem_cons.2 ⟨fun fn hf => ?_, ?_⟩
  · rw [Tryz.func245] at hf; cases hf; exact plan_ok245
  refine List.forall_mem_cons.2 ⟨fun fn hf => ?_, ?_⟩
  · rw [Tryz.func252] at hf; cases hf; exact plan_ok252
  refine List.forall_mem_cons.2 ⟨fun fn hf => ?_, ?_⟩
  · rw [Tryz.func253] at hf; cases hf; exact plan_ok253
  refine List.forall_mem_cons.2 ⟨fun fn hf => ?_, ?_⟩
  · rw [Tryz.func255] at hf; cases hf; exact plan_ok255
  refine List.forall_mem_cons.2 ⟨fun fn hf => ?_, ?_⟩
  · rw [Tryz.func258] at hf; cases hf; exact plan_ok258
  exact fun x hx => by cases hx
theorem planFs_cut : planFs = [3, 8, 10, 12, 13, 14, 15, 16, 17, 20, 21, 23, 26, 31, 33, 36, 39, 40, 42, 43, 45, 46, 47, 65, 69, 70, 71, 72, 75, 86, 88, 92, 94, 95, 96, 97, 98, 99, 100, 103] ++ [106, 107, 108, 109, 110, 113, 121, 124, 139, 140, 144, 145, 153, 157, 159, 160, 163, 168, 169, 170, 171, 172, 173, 174, 182, 183, 190, 192, 193, 194, 196, 200, 201, 202, 203, 205, 210, 213, 214, 215] ++ [216, 219, 223, 224, 225, 232, 233, 234, 235, 236, 238, 239, 240, 242, 243, 244, 245, 252, 253, 255, 258] := by kernel_rfl
theorem plans_ok : PlansOk Tryz.prog plans := by
  have key : ∀ f fn, Tryz.prog.funcs[f]? = some fn → bodyOk plans f fn = true := by
    intro f fn hf
    have h := List.all_eq_true.1 plans_rest (fn, f) (by rw [List.mem_zipIdx_iff_getElem?]; simpa using hf)
    simp only [Bool.or_eq_true] at h
    rcases h with h | h
    · have h := List.contains_iff_mem.1 h
      rw [planFs_cut] at h
      rcases List.mem_append.1 h with h | h
      rotate_left
      · exact plans_lot2 f h fn hf
      rcases List.mem_append.1 h with h | h
      rotate_left
      · exact plans_lot1 f h fn hf
      exact plans_lot0 f h fn hf
    · exact h
  refine ⟨fun f fn c hf hc => ?_, fun a ha => by cases ha⟩
  simpa [bodyOk, hc] using key f fn hf

end Go.Proofs.YtoimjmmbppikoaaGreat

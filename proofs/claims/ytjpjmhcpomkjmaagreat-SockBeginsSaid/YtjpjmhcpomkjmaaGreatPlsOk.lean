/-
  The plans serve every region that draws its order. Printed by plans.py.
-/
import Derived.Test.YtjpjmhcpomkjmaaGreatCe
import Derived.Test.YtjpjmhcpomkjmaaGreatProg
import Derived.Test.YtjpjmhcpomkjmaaGreatPls
set_option linter.unusedVariables false
set_option linter.unusedSimpArgs false
namespace Go.Proofs.YtjpjmhcpomkjmaaGreat
open Go

theorem follows_mixed : Tryz.prog.follows .mixedOrders = true := by kernel_rfl
def bodyOk (pl : Plans) (f : FuncId) (fn : Func) : Bool := match fn.body with
  | some c => codeOk pl f c
  | none => true
set_option maxRecDepth 100000 in
theorem plan_ok3 : bodyOk plans 3 Tryz.f3 = true := by kernel_rfl
set_option maxRecDepth 100000 in
theorem plan_ok14 : bodyOk plans 14 Tryz.f14 = true := by kernel_rfl
set_option maxRecDepth 100000 in
theorem plan_ok16 : bodyOk plans 16 Tryz.f16 = true := by kernel_rfl
set_option maxRecDepth 100000 in
theorem plan_ok17 : bodyOk plans 17 Tryz.f17 = true := by kernel_rfl
set_option maxRecDepth 100000 in
theorem plan_ok18 : bodyOk plans 18 Tryz.f18 = true := by kernel_rfl
set_option maxRecDepth 100000 in
theorem plan_ok19 : bodyOk plans 19 Tryz.f19 = true := by kernel_rfl
set_option maxRecDepth 100000 in
theorem plan_ok20 : bodyOk plans 20 Tryz.f20 = true := by kernel_rfl
set_option maxRecDepth 100000 in
theorem plan_ok22 : bodyOk plans 22 Tryz.f22 = true := by kernel_rfl
set_option maxRecDepth 100000 in
theorem plan_ok23 : bodyOk plans 23 Tryz.f23 = true := by kernel_rfl
set_option maxRecDepth 100000 in
theorem plan_ok30 : bodyOk plans 30 Tryz.f30 = true := by kernel_rfl
set_option maxRecDepth 100000 in
theorem plan_ok31 : bodyOk plans 31 Tryz.f31 = true := by kernel_rfl
set_option maxRecDepth 100000 in
theorem plan_ok36 : bodyOk plans 36 Tryz.f36 = true := by kernel_rfl
set_option maxRecDepth 100000 in
theorem plan_ok38 : bodyOk plans 38 Tryz.f38 = true := by kernel_rfl
set_option maxRecDepth 100000 in
theorem plan_ok41 : bodyOk plans 41 Tryz.f41 = true := by kernel_rfl
set_option maxRecDepth 100000 in
theorem plan_ok44 : bodyOk plans 44 Tryz.f44 = true := by kernel_rfl
set_option maxRecDepth 100000 in
theorem plan_ok45 : bodyOk plans 45 Tryz.f45 = true := by kernel_rfl
set_option maxRecDepth 100000 in
theorem plan_ok47 : bodyOk plans 47 Tryz.f47 = true := by kernel_rfl
set_option maxRecDepth 100000 in
theorem plan_ok49 : bodyOk plans 49 Tryz.f49 = true := by kernel_rfl
set_option maxRecDepth 100000 in
theorem plan_ok50 : bodyOk plans 50 Tryz.f50 = true := by kernel_rfl
set_option maxRecDepth 100000 in
theorem plan_ok51 : bodyOk plans 51 Tryz.f51 = true := by kernel_rfl
set_option maxRecDepth 100000 in
theorem plan_ok53 : bodyOk plans 53 Tryz.f53 = true := by kernel_rfl
set_option maxRecDepth 100000 in
theorem plan_ok54 : bodyOk plans 54 Tryz.f54 = true := by kernel_rfl
set_option maxRecDepth 100000 in
theorem plan_ok56 : bodyOk plans 56 Tryz.f56 = true := by kernel_rfl
set_option maxRecDepth 100000 in
theorem plan_ok57 : bodyOk plans 57 Tryz.f57 = true := by kernel_rfl
set_option maxRecDepth 100000 in
theorem plan_ok61 : bodyOk plans 61 Tryz.f61 = true := by kernel_rfl
set_option maxRecDepth 100000 in
theorem plan_ok69 : bodyOk plans 69 Tryz.f69 = true := by kernel_rfl
set_option maxRecDepth 100000 in
theorem plan_ok71 : bodyOk plans 71 Tryz.f71 = true := by kernel_rfl
set_option maxRecDepth 100000 in
theorem plan_ok72 : bodyOk plans 72 Tryz.f72 = true := by kernel_rfl
set_option maxRecDepth 100000 in
theorem plan_ok73 : bodyOk plans 73 Tryz.f73 = true := by kernel_rfl
set_option maxRecDepth 100000 in
theorem plan_ok75 : bodyOk plans 75 Tryz.f75 = true := by kernel_rfl
set_option maxRecDepth 100000 in
theorem plan_ok76 : bodyOk plans 76 Tryz.f76 = true := by kernel_rfl
set_option maxRecDepth 100000 in
theorem plan_ok78 : bodyOk plans 78 Tryz.f78 = true := by kernel_rfl
set_option maxRecDepth 100000 in
theorem plan_ok88 : bodyOk plans 88 Tryz.f88 = true := by kernel_rfl
set_option maxRecDepth 100000 in
theorem plan_ok92 : bodyOk plans 92 Tryz.f92 = true := by kernel_rfl
set_option maxRecDepth 100000 in
theorem plan_ok95 : bodyOk plans 95 Tryz.f95 = true := by kernel_rfl
set_option maxRecDepth 100000 in
theorem plan_ok99 : bodyOk plans 99 Tryz.f99 = true := by kernel_rfl
set_option maxRecDepth 100000 in
theorem plan_ok101 : bodyOk plans 101 Tryz.f101 = true := by kernel_rfl
set_option maxRecDepth 100000 in
theorem plan_ok102 : bodyOk plans 102 Tryz.f102 = true := by kernel_rfl
set_option maxRecDepth 100000 in
theorem plan_ok104 : bodyOk plans 104 Tryz.f104 = true := by kernel_rfl
set_option maxRecDepth 100000 in
theorem plan_ok105 : bodyOk plans 105 Tryz.f105 = true := by kernel_rfl
set_option maxRecDepth 100000 in
theorem plan_ok106 : bodyOk plans 106 Tryz.f106 = true := by kernel_rfl
set_option maxRecDepth 100000 in
theorem plan_ok107 : bodyOk plans 107 Tryz.f107 = true := by kernel_rfl
set_option maxRecDepth 100000 in
theorem plan_ok108 : bodyOk plans 108 Tryz.f108 = true := by kernel_rfl
set_option maxRecDepth 100000 in
theorem plan_ok109 : bodyOk plans 109 Tryz.f109 = true := by kernel_rfl
set_option maxRecDepth 100000 in
theorem plan_ok112 : bodyOk plans 112 Tryz.f112 = true := by kernel_rfl
set_option maxRecDepth 100000 in
theorem plan_ok115 : bodyOk plans 115 Tryz.f115 = true := by kernel_rfl
set_option maxRecDepth 100000 in
theorem plan_ok116 : bodyOk plans 116 Tryz.f116 = true := by kernel_rfl
set_option maxRecDepth 100000 in
theorem plan_ok117 : bodyOk plans 117 Tryz.f117 = true := by kernel_rfl
set_option maxRecDepth 100000 in
theorem plan_ok121 : bodyOk plans 121 Tryz.f121 = true := by kernel_rfl
set_option maxRecDepth 100000 in
theorem plan_ok123 : bodyOk plans 123 Tryz.f123 = true := by kernel_rfl
set_option maxRecDepth 100000 in
theorem plan_ok128 : bodyOk plans 128 Tryz.f128 = true := by kernel_rfl
set_option maxRecDepth 100000 in
theorem plan_ok130 : bodyOk plans 130 Tryz.f130 = true := by kernel_rfl
set_option maxRecDepth 100000 in
theorem plan_ok134 : bodyOk plans 134 Tryz.f134 = true := by kernel_rfl
set_option maxRecDepth 100000 in
theorem plan_ok135 : bodyOk plans 135 Tryz.f135 = true := by kernel_rfl
set_option maxRecDepth 100000 in
theorem plan_ok137 : bodyOk plans 137 Tryz.f137 = true := by kernel_rfl
set_option maxRecDepth 100000 in
theorem plan_ok138 : bodyOk plans 138 Tryz.f138 = true := by kernel_rfl
set_option maxRecDepth 100000 in
theorem plan_ok140 : bodyOk plans 140 Tryz.f140 = true := by kernel_rfl
set_option maxRecDepth 100000 in
theorem plan_ok152 : bodyOk plans 152 Tryz.f152 = true := by kernel_rfl
set_option maxRecDepth 100000 in
theorem plan_ok153 : bodyOk plans 153 Tryz.f153 = true := by kernel_rfl
set_option maxRecDepth 100000 in
theorem plan_ok154 : bodyOk plans 154 Tryz.f154 = true := by kernel_rfl
set_option maxRecDepth 100000 in
theorem plan_ok155 : bodyOk plans 155 Tryz.f155 = true := by kernel_rfl
set_option maxRecDepth 100000 in
theorem plan_ok156 : bodyOk plans 156 Tryz.f156 = true := by kernel_rfl
set_option maxRecDepth 100000 in
theorem plan_ok159 : bodyOk plans 159 Tryz.f159 = true := by kernel_rfl
set_option maxRecDepth 100000 in
theorem plan_ok173 : bodyOk plans 173 Tryz.f173 = true := by kernel_rfl
set_option maxRecDepth 100000 in
theorem plan_ok174 : bodyOk plans 174 Tryz.f174 = true := by kernel_rfl
set_option maxRecDepth 100000 in
theorem plan_ok178 : bodyOk plans 178 Tryz.f178 = true := by kernel_rfl
set_option maxRecDepth 100000 in
theorem plan_ok179 : bodyOk plans 179 Tryz.f179 = true := by kernel_rfl
set_option maxRecDepth 100000 in
theorem plan_ok187 : bodyOk plans 187 Tryz.f187 = true := by kernel_rfl
set_option maxRecDepth 100000 in
theorem plan_ok189 : bodyOk plans 189 Tryz.f189 = true := by kernel_rfl
set_option maxRecDepth 100000 in
theorem plan_ok190 : bodyOk plans 190 Tryz.f190 = true := by kernel_rfl
set_option maxRecDepth 100000 in
theorem plan_ok192 : bodyOk plans 192 Tryz.f192 = true := by kernel_rfl
set_option maxRecDepth 100000 in
theorem plan_ok194 : bodyOk plans 194 Tryz.f194 = true := by kernel_rfl
set_option maxRecDepth 100000 in
theorem plan_ok197 : bodyOk plans 197 Tryz.f197 = true := by kernel_rfl
set_option maxRecDepth 100000 in
theorem plan_ok203 : bodyOk plans 203 Tryz.f203 = true := by kernel_rfl
set_option maxRecDepth 100000 in
theorem plan_ok206 : bodyOk plans 206 Tryz.f206 = true := by kernel_rfl
set_option maxRecDepth 100000 in
theorem plan_ok210 : bodyOk plans 210 Tryz.f210 = true := by kernel_rfl
set_option maxRecDepth 100000 in
theorem plan_ok214 : bodyOk plans 214 Tryz.f214 = true := by kernel_rfl
set_option maxRecDepth 100000 in
theorem plan_ok215 : bodyOk plans 215 Tryz.f215 = true := by kernel_rfl
set_option maxRecDepth 100000 in
theorem plan_ok216 : bodyOk plans 216 Tryz.f216 = true := by kernel_rfl
set_option maxRecDepth 100000 in
theorem plan_ok217 : bodyOk plans 217 Tryz.f217 = true := by kernel_rfl
set_option maxRecDepth 100000 in
theorem plan_ok218 : bodyOk plans 218 Tryz.f218 = true := by kernel_rfl
set_option maxRecDepth 100000 in
theorem plan_ok219 : bodyOk plans 219 Tryz.f219 = true := by kernel_rfl
set_option maxRecDepth 100000 in
theorem plan_ok220 : bodyOk plans 220 Tryz.f220 = true := by kernel_rfl
set_option maxRecDepth 100000 in
theorem plan_ok231 : bodyOk plans 231 Tryz.f231 = true := by kernel_rfl
set_option maxRecDepth 100000 in
theorem plan_ok234 : bodyOk plans 234 Tryz.f234 = true := by kernel_rfl
set_option maxRecDepth 100000 in
theorem plan_ok239 : bodyOk plans 239 Tryz.f239 = true := by kernel_rfl
set_option maxRecDepth 100000 in
theorem plan_ok244 : bodyOk plans 244 Tryz.f244 = true := by kernel_rfl
set_option maxRecDepth 100000 in
theorem plan_ok245 : bodyOk plans 245 Tryz.f245 = true := by kernel_rfl
set_option maxRecDepth 100000 in
theorem plan_ok246 : bodyOk plans 246 Tryz.f246 = true := by kernel_rfl
set_option maxRecDepth 100000 in
theorem plan_ok248 : bodyOk plans 248 Tryz.f248 = true := by kernel_rfl
set_option maxRecDepth 100000 in
theorem plan_ok252 : bodyOk plans 252 Tryz.f252 = true := by kernel_rfl
set_option maxRecDepth 100000 in
theorem plan_ok253 : bodyOk plans 253 Tryz.f253 = true := by kernel_rfl
set_option maxRecDepth 100000 in
theorem plan_ok254 : bodyOk plans 254 Tryz.f254 = true := by kernel_rfl
set_option maxRecDepth 100000 in
theorem plan_ok255 : bodyOk plans 255 Tryz.f255 = true := by kernel_rfl
set_option maxRecDepth 100000 in
theorem plan_ok257 : bodyOk plans 257 Tryz.f257 = true := by kernel_rfl
set_option maxRecDepth 100000 in
theorem plan_ok262 : bodyOk plans 262 Tryz.f262 = true := by kernel_rfl
set_option maxRecDepth 100000 in
theorem plan_ok265 : bodyOk plans 265 Tryz.f265 = true := by kernel_rfl
set_option maxRecDepth 100000 in
theorem plan_ok266 : bodyOk plans 266 Tryz.f266 = true := by kernel_rfl
set_option maxRecDepth 100000 in
theorem plan_ok267 : bodyOk plans 267 Tryz.f267 = true := by kernel_rfl
set_option maxRecDepth 100000 in
theorem plan_ok271 : bodyOk plans 271 Tryz.f271 = true := by kernel_rfl
set_option maxRecDepth 100000 in
theorem plan_ok273 : bodyOk plans 273 Tryz.f273 = true := by kernel_rfl
set_option maxRecDepth 100000 in
theorem plan_ok274 : bodyOk plans 274 Tryz.f274 = true := by kernel_rfl
set_option maxRecDepth 100000 in
theorem plan_ok275 : bodyOk plans 275 Tryz.f275 = true := by kernel_rfl
set_option maxRecDepth 100000 in
theorem plan_ok277 : bodyOk plans 277 Tryz.f277 = true := by kernel_rfl
set_option maxRecDepth 100000 in
theorem plan_ok286 : bodyOk plans 286 Tryz.f286 = true := by kernel_rfl
set_option maxRecDepth 100000 in
theorem plan_ok287 : bodyOk plans 287 Tryz.f287 = true := by kernel_rfl
set_option maxRecDepth 100000 in
theorem plan_ok288 : bodyOk plans 288 Tryz.f288 = true := by kernel_rfl
set_option maxRecDepth 100000 in
theorem plan_ok289 : bodyOk plans 289 Tryz.f289 = true := by kernel_rfl
set_option maxRecDepth 100000 in
theorem plan_ok290 : bodyOk plans 290 Tryz.f290 = true := by kernel_rfl
set_option maxRecDepth 100000 in
theorem plan_ok294 : bodyOk plans 294 Tryz.f294 = true := by kernel_rfl
set_option maxRecDepth 100000 in
theorem plan_ok296 : bodyOk plans 296 Tryz.f296 = true := by kernel_rfl
set_option maxRecDepth 100000 in
theorem plan_ok297 : bodyOk plans 297 Tryz.f297 = true := by kernel_rfl
set_option maxRecDepth 100000 in
theorem plan_ok301 : bodyOk plans 301 Tryz.f301 = true := by kernel_rfl
set_option maxRecDepth 100000 in
theorem plan_ok303 : bodyOk plans 303 Tryz.f303 = true := by kernel_rfl
set_option maxRecDepth 100000 in
theorem plan_ok304 : bodyOk plans 304 Tryz.f304 = true := by kernel_rfl
set_option maxRecDepth 100000 in
theorem plan_ok309 : bodyOk plans 309 Tryz.f309 = true := by kernel_rfl
set_option maxRecDepth 100000 in
theorem plan_ok311 : bodyOk plans 311 Tryz.f311 = true := by kernel_rfl
set_option maxRecDepth 100000 in
theorem plan_ok312 : bodyOk plans 312 Tryz.f312 = true := by kernel_rfl
set_option maxRecDepth 100000 in
theorem plan_ok313 : bodyOk plans 313 Tryz.f313 = true := by kernel_rfl
set_option maxRecDepth 100000 in
theorem plan_ok315 : bodyOk plans 315 Tryz.f315 = true := by kernel_rfl
set_option maxRecDepth 100000 in
theorem plan_ok316 : bodyOk plans 316 Tryz.f316 = true := by kernel_rfl
set_option maxRecDepth 100000 in
theorem plan_ok317 : bodyOk plans 317 Tryz.f317 = true := by kernel_rfl
set_option maxRecDepth 100000 in
theorem plan_ok318 : bodyOk plans 318 Tryz.f318 = true := by kernel_rfl
set_option maxRecDepth 100000 in
theorem plan_ok319 : bodyOk plans 319 Tryz.f319 = true := by kernel_rfl
set_option maxRecDepth 100000 in
theorem plan_ok322 : bodyOk plans 322 Tryz.f322 = true := by kernel_rfl
set_option maxRecDepth 100000 in
theorem plan_ok350 : bodyOk plans 350 Tryz.f350 = true := by kernel_rfl
set_option maxRecDepth 100000 in
theorem plan_ok352 : bodyOk plans 352 Tryz.f352 = true := by kernel_rfl
set_option maxRecDepth 100000 in
theorem plan_ok353 : bodyOk plans 353 Tryz.f353 = true := by kernel_rfl
set_option maxRecDepth 100000 in
theorem plan_ok357 : bodyOk plans 357 Tryz.f357 = true := by kernel_rfl
set_option maxRecDepth 100000 in
theorem plan_ok360 : bodyOk plans 360 Tryz.f360 = true := by kernel_rfl
set_option maxRecDepth 100000 in
theorem plan_ok361 : bodyOk plans 361 Tryz.f361 = true := by kernel_rfl
set_option maxRecDepth 100000 in
theorem plan_ok365 : bodyOk plans 365 Tryz.f365 = true := by kernel_rfl
set_option maxRecDepth 100000 in
theorem plan_ok367 : bodyOk plans 367 Tryz.f367 = true := by kernel_rfl
set_option maxRecDepth 100000 in
theorem plan_ok368 : bodyOk plans 368 Tryz.f368 = true := by kernel_rfl
set_option maxRecDepth 100000 in
theorem plan_ok372 : bodyOk plans 372 Tryz.f372 = true := by kernel_rfl
set_option maxRecDepth 100000 in
theorem plan_ok374 : bodyOk plans 374 Tryz.f374 = true := by kernel_rfl
set_option maxRecDepth 100000 in
theorem plan_ok375 : bodyOk plans 375 Tryz.f375 = true := by kernel_rfl
set_option maxRecDepth 100000 in
theorem plan_ok379 : bodyOk plans 379 Tryz.f379 = true := by kernel_rfl
set_option maxRecDepth 100000 in
theorem plan_ok381 : bodyOk plans 381 Tryz.f381 = true := by kernel_rfl
set_option maxRecDepth 100000 in
theorem plan_ok386 : bodyOk plans 386 Tryz.f386 = true := by kernel_rfl
set_option maxRecDepth 100000 in
theorem plan_ok387 : bodyOk plans 387 Tryz.f387 = true := by kernel_rfl
set_option maxRecDepth 100000 in
theorem plan_ok388 : bodyOk plans 388 Tryz.f388 = true := by kernel_rfl
set_option maxRecDepth 100000 in
theorem plan_ok389 : bodyOk plans 389 Tryz.f389 = true := by kernel_rfl
def planFs : List Nat := [3, 14, 16, 17, 18, 19, 20, 22, 23, 30, 31, 36, 38, 41, 44, 45, 47, 49, 50, 51, 53, 54, 56, 57, 61, 69, 71, 72, 73, 75, 76, 78, 88, 92, 95, 99, 101, 102, 104, 105, 106, 107, 108, 109, 112, 115, 116, 117, 121, 123, 128, 130, 134, 135, 137, 138, 140, 152, 153, 154, 155, 156, 159, 173, 174, 178, 179, 187, 189, 190, 192, 194, 197, 203, 206, 210, 214, 215, 216, 217, 218, 219, 220, 231, 234, 239, 244, 245, 246, 248, 252, 253, 254, 255, 257, 262, 265, 266, 267, 271, 273, 274, 275, 277, 286, 287, 288, 289, 290, 294, 296, 297, 301, 303, 304, 309, 311, 312, 313, 315, 316, 317, 318, 319, 322, 350, 352, 353, 357, 360, 361, 365, 367, 368, 372, 374, 375, 379, 381, 386, 387, 388, 389]
set_option maxRecDepth 100000 in
theorem plans_rest : (Tryz.prog.funcs.toList.zipIdx.all fun x => planFs.contains x.2 || bodyOk plans x.2 x.1) = true := by kernel_rfl
theorem plans_lot0 : ∀ f ∈ ([3, 14, 16, 17, 18, 19, 20, 22, 23, 30, 31, 36, 38, 41, 44, 45, 47, 49, 50, 51, 53, 54, 56, 57, 61, 69, 71, 72, 73, 75, 76, 78, 88, 92, 95, 99, 101, 102, 104, 105] : List Nat), ∀ fn, Tryz.prog.funcs[f]? = some fn → bodyOk plans f fn = true := by
  refine List.forall_mem_cons.2 ⟨fun fn hf => ?_, ?_⟩
  · rw [Tryz.func3] at hf; cases hf; exact plan_ok3
  refine List.forall_mem_cons.2 ⟨fun fn hf => ?_, ?_⟩
  · rw [Tryz.func14] at hf; cases hf; exact plan_ok14
  refine List.forall_mem_cons.2 ⟨fun fn hf => ?_, ?_⟩
  · rw [Tryz.func16] at hf; cases hf; exact plan_ok16
  refine List.forall_mem_cons.2 ⟨fun fn hf => ?_, ?_⟩
  · rw [Tryz.func17] at hf; cases hf; exact plan_ok17
  refine List.forall_mem_cons.2 ⟨fun fn hf => ?_, ?_⟩
  · rw [Tryz.func18] at hf; cases hf; exact plan_ok18
  refine List.forall_mem_cons.2 ⟨fun fn hf => ?_, ?_⟩
  · rw [Tryz.func19] at hf; cases hf; exact plan_ok19
  refine List.forall_mem_cons.2 ⟨fun fn hf => ?_, ?_⟩
  · rw [Tryz.func20] at hf; cases hf; exact plan_ok20
  refine List.forall_mem_cons.2 ⟨fun fn hf => ?_, ?_⟩
  · rw [Tryz.func22] at hf; cases hf; exact plan_ok22
  refine List.forall_mem_cons.2 ⟨fun fn hf => ?_, ?_⟩
  · rw [Tryz.func23] at hf; cases hf; exact plan_ok23
  refine List.forall_mem_cons.2 ⟨fun fn hf => ?_, ?_⟩
  · rw [Tryz.func30] at hf; cases hf; exact plan_ok30
  refine List.forall_mem_cons.2 ⟨fun fn hf => ?_, ?_⟩
  · rw [Tryz.func31] at hf; cases hf; exact plan_ok31
  refine List.forall_mem_cons.2 ⟨fun fn hf => ?_, ?_⟩
  · rw [Tryz.func36] at hf; cases hf; exact plan_ok36
  refine List.forall_mem_cons.2 ⟨fun fn hf => ?_, ?_⟩
  · rw [Tryz.func38] at hf; cases hf; exact plan_ok38
  refine List.forall_mem_cons.2 ⟨fun fn hf => ?_, ?_⟩
  · rw [Tryz.func41] at hf; cases hf; exact plan_ok41
  refine List.forall_mem_cons.2 ⟨fun fn hf => ?_, ?_⟩
  · rw [Tryz.func44] at hf; cases hf; exact plan_ok44
  refine List.forall_mem_cons.2 ⟨fun fn hf => ?_, ?_⟩
  · rw [Tryz.func45] at hf; cases hf; exact plan_ok45
  refine List.forall_mem_cons.2 ⟨fun fn hf => ?_, ?_⟩
  · rw [Tryz.func47] at hf; cases hf; exact plan_ok47
  refine List.forall_mem_cons.2 ⟨fun fn hf => ?_, ?_⟩
  · rw [Tryz.func49] at hf; cases hf; exact plan_ok49
  refine List.forall_mem_cons.2 ⟨fun fn hf => ?_, ?_⟩
  · rw [Tryz.func50] at hf; cases hf; exact plan_ok50
  refine List.forall_mem_cons.2 ⟨fun fn hf => ?_, ?_⟩
  · rw [Tryz.func51] at hf; cases hf; exact plan_ok51
  refine List.forall_mem_cons.2 ⟨fun fn hf => ?_, ?_⟩
  · rw [Tryz.func53] at hf; cases hf; exact plan_ok53
  refine List.forall_mem_cons.2 ⟨fun fn hf => ?_, ?_⟩
  · rw [Tryz.func54] at hf; cases hf; exact plan_ok54
  refine List.forall_mem_cons.2 ⟨fun fn hf => ?_, ?_⟩
  · rw [Tryz.func56] at hf; cases hf; exact plan_ok56
  refine List.forall_mem_cons.2 ⟨fun fn hf => ?_, ?_⟩
  · rw [Tryz.func57] at hf; cases hf; exact plan_ok57
  refine List.forall_mem_cons.2 ⟨fun fn hf => ?_, ?_⟩
  · rw [Tryz.func61] at hf; cases hf; exact plan_ok61
  refine List.forall_mem_cons.2 ⟨fun fn hf => ?_, ?_⟩
  · rw [Tryz.func69] at hf; cases hf; exact plan_ok69
  refine List.forall_mem_cons.2 ⟨fun fn hf => ?_, ?_⟩
  · rw [Tryz.func71] at hf; cases hf; exact plan_ok71
  refine List.forall_mem_cons.2 ⟨fun fn hf => ?_, ?_⟩
  · rw [Tryz.func72] at hf; cases hf; exact plan_ok72
  refine List.forall_mem_cons.2 ⟨fun fn hf => ?_, ?_⟩
  · rw [Tryz.func73] at hf; cases hf; exact plan_ok73
  refine List.forall_mem_cons.2 ⟨fun fn hf => ?_, ?_⟩
  · rw [Tryz.func75] at hf; cases hf; exact plan_ok75
  refine List.forall_mem_cons.2 ⟨fun fn hf => ?_, ?_⟩
  · rw [Tryz.func76] at hf; cases hf; exact plan_ok76
  refine List.forall_mem_cons.2 ⟨fun fn hf => ?_, ?_⟩
  · rw [Tryz.func78] at hf; cases hf; exact plan_ok78
  refine List.forall_mem_cons.2 ⟨fun fn hf => ?_, ?_⟩
  · rw [Tryz.func88] at hf; cases hf; exact plan_ok88
  refine List.forall_mem_cons.2 ⟨fun fn hf => ?_, ?_⟩
  · rw [Tryz.func92] at hf; cases hf; exact plan_ok92
  refine List.forall_mem_cons.2 ⟨fun fn hf => ?_, ?_⟩
  · rw [Tryz.func95] at hf; cases hf; exact plan_ok95
  refine List.forall_mem_cons.2 ⟨fun fn hf => ?_, ?_⟩
  · rw [Tryz.func99] at hf; cases hf; exact plan_ok99
  refine List.forall_mem_cons.2 ⟨fun fn hf => ?_, ?_⟩
  · rw [Tryz.func101] at hf; cases hf; exact plan_ok101
  refine List.forall_mem_cons.2 ⟨fun fn hf => ?_, ?_⟩
  · rw [Tryz.func102] at hf; cases hf; exact plan_ok102
  refine List.forall_mem_cons.2 ⟨fun fn hf => ?_, ?_⟩
  · rw [Tryz.func104] at hf; cases hf; exact plan_ok104
  refine List.forall_mem_cons.2 ⟨fun fn hf => ?_, ?_⟩
  · rw [Tryz.func105] at hf; cases hf; exact plan_ok105
  exact fun x hx => by cases hx
theorem plans_lot1 : ∀ f ∈ ([106, 107, 108, 109, 112, 115, 116, 117, 121, 123, 128, 130, 134, 135, 137, 138, 140, 152, 153, 154, 155, 156, 159, 173, 174, 178, 179, 187, 189, 190, 192, 194, 197, 203, 206, 210, 214, 215, 216, 217] : List Nat), ∀ fn, Tryz.prog.funcs[f]? = some fn → bodyOk plans f fn = true := by
  refine List.forall_mem_cons.2 ⟨fun fn hf => ?_, ?_⟩
  · rw [Tryz.func106] at hf; cases hf; exact plan_ok106
  refine List.forall_mem_cons.2 ⟨fun fn hf => ?_, ?_⟩
  · rw [Tryz.func107] at hf; cases hf; exact plan_ok107
  refine List.forall_mem_cons.2 ⟨fun fn hf => ?_, ?_⟩
  · rw [Tryz.func108] at hf; cases hf; exact plan_ok108
  refine List.forall_mem_cons.2 ⟨fun fn hf => ?_, ?_⟩
  · rw [Tryz.func109] at hf; cases hf; exact plan_ok109
  refine List.forall_mem_cons.2 ⟨fun fn hf => ?_, ?_⟩
  · rw [Tryz.func112] at hf; cases hf; exact plan_ok112
  refine List.forall_mem_cons.2 ⟨fun fn hf => ?_, ?_⟩
  · rw [Tryz.func115] at hf; cases hf; exact plan_ok115
  refine List.forall_mem_cons.2 ⟨fun fn hf => ?_, ?_⟩
  · rw [Tryz.func116] at hf; cases hf; exact plan_ok116
  refine List.forall_mem_cons.2 ⟨fun fn hf => ?_, ?_⟩
  · rw [Tryz.func117] at hf; cases hf; exact plan_ok117
  refine List.forall_mem_cons.2 ⟨fun fn hf => ?_, ?_⟩
  · rw [Tryz.func121] at hf; cases hf; exact plan_ok121
  refine List.forall_mem_cons.2 ⟨fun fn hf => ?_, ?_⟩
  · rw [Tryz.func123] at hf; cases hf; exact plan_ok123
  refine List.forall_mem_cons.2 ⟨fun fn hf => ?_, ?_⟩
  · rw [Tryz.func128] at hf; cases hf; exact plan_ok128
  refine List.forall_mem_cons.2 ⟨fun fn hf => ?_, ?_⟩
  · rw [Tryz.func130] at hf; cases hf; exact plan_ok130
  refine List.forall_mem_cons.2 ⟨fun fn hf => ?_, ?_⟩
  · rw [Tryz.func134] at hf; cases hf; exact plan_ok134
  refine List.forall_mem_cons.2 ⟨fun fn hf => ?_, ?_⟩
  · rw [Tryz.func135] at hf; cases hf; exact plan_ok135
  refine List.forall_mem_cons.2 ⟨fun fn hf => ?_, ?_⟩
  · rw [Tryz.func137] at hf; cases hf; exact plan_ok137
  refine List.forall_mem_cons.2 ⟨fun fn hf => ?_, ?_⟩
  · rw [Tryz.func138] at hf; cases hf; exact plan_ok138
  refine List.forall_mem_cons.2 ⟨fun fn hf => ?_, ?_⟩
  · rw [Tryz.func140] at hf; cases hf; exact plan_ok140
  refine List.forall_mem_cons.2 ⟨fun fn hf => ?_, ?_⟩
  · rw [Tryz.func152] at hf; cases hf; exact plan_ok152
  refine List.forall_mem_cons.2 ⟨fun fn hf => ?_, ?_⟩
  · rw [Tryz.func153] at hf; cases hf; exact plan_ok153
  refine List.forall_mem_cons.2 ⟨fun fn hf => ?_, ?_⟩
  · rw [Tryz.func154] at hf; cases hf; exact plan_ok154
  refine List.forall_mem_cons.2 ⟨fun fn hf => ?_, ?_⟩
  · rw [Tryz.func155] at hf; cases hf; exact plan_ok155
  refine List.forall_mem_cons.2 ⟨fun fn hf => ?_, ?_⟩
  · rw [Tryz.func156] at hf; cases hf; exact plan_ok156
  refine List.forall_mem_cons.2 ⟨fun fn hf => ?_, ?_⟩
  · rw [Tryz.func159] at hf; cases hf; exact plan_ok159
  refine List.forall_mem_cons.2 ⟨fun fn hf => ?_, ?_⟩
  · rw [Tryz.func173] at hf; cases hf; exact plan_ok173
  refine List.forall_mem_cons.2 ⟨fun fn hf => ?_, ?_⟩
  · rw [Tryz.func174] at hf; cases hf; exact plan_ok174
  refine List.forall_mem_cons.2 ⟨fun fn hf => ?_, ?_⟩
  · rw [Tryz.func178] at hf; cases hf; exact plan_ok178
  refine List.forall_mem_cons.2 ⟨fun fn hf => ?_, ?_⟩
  · rw [Tryz.func179] at hf; cases hf; exact plan_ok179
  refine List.forall_mem_cons.2 ⟨fun fn hf => ?_, ?_⟩
  · rw [Tryz.func187] at hf; cases hf; exact plan_ok187
  refine List.forall_mem_cons.2 ⟨fun fn hf => ?_, ?_⟩
  · rw [Tryz.func189] at hf; cases hf; exact plan_ok189
  refine List.forall_mem_cons.2 ⟨fun fn hf => ?_, ?_⟩
  · rw [Tryz.func190] at hf; cases hf; exact plan_ok190
  refine List.forall_mem_cons.2 ⟨fun fn hf => ?_, ?_⟩
  · rw [Tryz.func192] at hf; cases hf; exact plan_ok192
  refine List.forall_mem_cons.2 ⟨fun fn hf => ?_, ?_⟩
  · rw [Tryz.func194] at hf; cases hf; exact plan_ok194
  refine List.forall_mem_cons.2 ⟨fun fn hf => ?_, ?_⟩
  · rw [Tryz.func197] at hf; cases hf; exact plan_ok197
  refine List.forall_mem_cons.2 ⟨fun fn hf => ?_, ?_⟩
  · rw [Tryz.func203] at hf; cases hf; exact plan_ok203
  refine List.forall_mem_cons.2 ⟨fun fn hf => ?_, ?_⟩
  · rw [Tryz.func206] at hf; cases hf; exact plan_ok206
  refine List.forall_mem_cons.2 ⟨fun fn hf => ?_, ?_⟩
  · rw [Tryz.func210] at hf; cases hf; exact plan_ok210
  refine List.forall_mem_cons.2 ⟨fun fn hf => ?_, ?_⟩
  · rw [Tryz.func214] at hf; cases hf; exact plan_ok214
  refine List.forall_mem_cons.2 ⟨fun fn hf => ?_, ?_⟩
  · rw [Tryz.func215] at hf; cases hf; exact plan_ok215
  refine List.forall_mem_cons.2 ⟨fun fn hf => ?_, ?_⟩
  · rw [Tryz.func216] at hf; cases hf; exact plan_ok216
  refine List.forall_mem_cons.2 ⟨fun fn hf => ?_, ?_⟩
  · rw [Tryz.func217] at hf; cases hf; exact plan_ok217
  exact fun x hx => by cases hx
theorem plans_lot2 : ∀ f ∈ ([218, 219, 220, 231, 234, 239, 244, 245, 246, 248, 252, 253, 254, 255, 257, 262, 265, 266, 267, 271, 273, 274, 275, 277, 286, 287, 288, 289, 290, 294, 296, 297, 301, 303, 304, 309, 311, 312, 313, 315] : List Nat), ∀ fn, Tryz.prog.funcs[f]? = some fn → bodyOk plans f fn = true := by
  refine List.forall_mem_cons.2 ⟨fun fn hf => ?_, ?_⟩
  · rw [Tryz.func218] at hf; cases hf; exact plan_ok218
  refine List.forall_mem_cons.2 ⟨fun fn hf => ?_, ?_⟩
  · rw [Tryz.func219] at hf; cases hf; exact plan_ok219
  refine List.forall_mem_cons.2 ⟨fun fn hf => ?_, ?_⟩
  · rw [Tryz.func220] at hf; cases hf; exact plan_ok220
  refine List.forall_mem_cons.2 ⟨fun fn hf => ?_, ?_⟩
  · rw [Tryz.func231] at hf; cases hf; exact plan_ok231
  refine List.forall_mem_cons.2 ⟨fun fn hf => ?_, ?_⟩
  · rw [Tryz.func234] at hf; cases hf; exact plan_ok234
  refine List.forall_mem_cons.2 ⟨fun fn hf => ?_, ?_⟩
  · rw [Tryz.func239] at hf; cases hf; exact plan_ok239
  refine List.forall_mem_cons.2 ⟨fun fn hf => ?_, ?_⟩
  · rw [Tryz.func244] at hf; cases hf; exact plan_ok244
  refine List.forall_mem_cons.2 ⟨fun fn hf => ?_, ?_⟩
  · rw [Tryz.func245] at hf; cases hf; exact plan_ok245
  refine List.forall_mem_cons.2 ⟨fun fn hf => ?_, ?_⟩
  · rw [Tryz.func246] at hf; cases hf; exact plan_ok246
  refine List.forall_mem_cons.2 ⟨fun fn hf => ?_, ?_⟩
  · rw [Tryz.func248] at hf; cases hf; exact plan_ok248
  refine List.forall_mem_cons.2 ⟨fun fn hf => ?_, ?_⟩
  · rw [Tryz.func252] at hf; cases hf; exact plan_ok252
  refine List.forall_mem_cons.2 ⟨fun fn hf => ?_, ?_⟩
  · rw [Tryz.func253] at hf; cases hf; exact plan_ok253
  refine List.forall_mem_cons.2 ⟨fun fn hf => ?_, ?_⟩
  · rw [Tryz.func254] at hf; cases hf; exact plan_ok254
  refine List.forall_mem_cons.2 ⟨fun fn hf => ?_, ?_⟩
  · rw [Tryz.func255] at hf; cases hf; exact plan_ok255
  refine List.forall_mem_cons.2 ⟨fun fn hf => ?_, ?_⟩
  · rw [Tryz.func257] at hf; cases hf; exact plan_ok257
  refine List.forall_mem_cons.2 ⟨fun fn hf => ?_, ?_⟩
  · rw [Tryz.func262] at hf; cases hf; exact plan_ok262
  refine List.forall_mem_cons.2 ⟨fun fn hf => ?_, ?_⟩
  · rw [Tryz.func265] at hf; cases hf; exact plan_ok265
  refine List.forall_mem_cons.2 ⟨fun fn hf => ?_, ?_⟩
  · rw [Tryz.func266] at hf; cases hf; exact plan_ok266
  refine List.forall_mem_cons.2 ⟨fun fn hf => ?_, ?_⟩
  · rw [Tryz.func267] at hf; cases hf; exact plan_ok267
  refine List.forall_mem_cons.2 ⟨fun fn hf => ?_, ?_⟩
  · rw [Tryz.func271] at hf; cases hf; exact plan_ok271
  refine List.forall_mem_cons.2 ⟨fun fn hf => ?_, ?_⟩
  · rw [Tryz.func273] at hf; cases hf; exact plan_ok273
  refine List.forall_mem_cons.2 ⟨fun fn hf => ?_, ?_⟩
  · rw [Tryz.func274] at hf; cases hf; exact plan_ok274
  refine List.forall_mem_cons.2 ⟨fun fn hf => ?_, ?_⟩
  · rw [Tryz.func275] at hf; cases hf; exact plan_ok275
  refine List.forall_mem_cons.2 ⟨fun fn hf => ?_, ?_⟩
  · rw [Tryz.func277] at hf; cases hf; exact plan_ok277
  refine List.forall_mem_cons.2 ⟨fun fn hf => ?_, ?_⟩
  · rw [Tryz.func286] at hf; cases hf; exact plan_ok286
  refine List.forall_mem_cons.2 ⟨fun fn hf => ?_, ?_⟩
  · rw [Tryz.func287] at hf; cases hf; exact plan_ok287
  refine List.forall_mem_cons.2 ⟨fun fn hf => ?_, ?_⟩
  · rw [Tryz.func288] at hf; cases hf; exact plan_ok288
  refine List.forall_mem_cons.2 ⟨fun fn hf => ?_, ?_⟩
  · rw [Tryz.func289] at hf; cases hf; exact plan_ok289
  refine List.forall_mem_cons.2 ⟨fun fn hf => ?_, ?_⟩
  · rw [Tryz.func290] at hf; cases hf; exact plan_ok290
  refine List.forall_mem_cons.2 ⟨fun fn hf => ?_, ?_⟩
  · rw [Tryz.func294] at hf; cases hf; exact plan_ok294
  refine List.forall_mem_cons.2 ⟨fun fn hf => ?_, ?_⟩
  · rw [Tryz.func296] at hf; cases hf; exact plan_ok296
  refine List.forall_mem_cons.2 ⟨fun fn hf => ?_, ?_⟩
  · rw [Tryz.func297] at hf; cases hf; exact plan_ok297
  refine List.forall_mem_cons.2 ⟨fun fn hf => ?_, ?_⟩
  · rw [Tryz.func301] at hf; cases hf; exact plan_ok301
  refine List.forall_mem_cons.2 ⟨fun fn hf => ?_, ?_⟩
  · rw [Tryz.func303] at hf; cases hf; exact plan_ok303
  refine List.forall_mem_cons.2 ⟨fun fn hf => ?_, ?_⟩
  · rw [Tryz.func304] at hf; cases hf; exact plan_ok304
  refine List.forall_mem_cons.2 ⟨fun fn hf => ?_, ?_⟩
  · rw [Tryz.func309] at hf; cases hf; exact plan_ok309
  refine List.forall_mem_cons.2 ⟨fun fn hf => ?_, ?_⟩
  · rw [Tryz.func311] at hf; cases hf; exact plan_ok311
  refine List.forall_mem_cons.2 ⟨fun fn hf => ?_, ?_⟩
  · rw [Tryz.func312] at hf; cases hf; exact plan_ok312
  refine List.forall_mem_cons.2 ⟨fun fn hf => ?_, ?_⟩
  · rw [Tryz.func313] at hf; cases hf; exact plan_ok313
  refine List.forall_mem_cons.2 ⟨fun fn hf => ?_, ?_⟩
  · rw [Tryz.func315] at hf; cases hf; exact plan_ok315
  exact fun x hx => by cases hx
theorem plans_lot3 : ∀ f ∈ ([316, 317, 318, 319, 322, 350, 352, 353, 357, 360, 361, 365, 367, 368, 372, 374, 375, 379, 381, 386, 387, 388, 389] : List Nat), ∀ fn, Tryz.prog.funcs[f]? = some fn → bodyOk plans f fn = true := by
  refine List.forall_mem_cons.2 ⟨fun fn hf => ?_, ?_⟩
  · rw [Tryz.func316] at hf; cases hf; exact plan_ok316
  refine List.forall_mem_cons.2 ⟨fun fn hf => ?_, ?_⟩
  · rw [Tryz.func317] at hf; cases hf; exact plan_ok317
  refine List.forall_mem_cons.2 ⟨fun fn hf => ?_, ?_⟩
  · rw [Tryz.func318] at hf; cases hf; exact plan_ok318
  refine List.forall_mem_cons.2 ⟨fun fn hf => ?_, ?_⟩
  · rw [Tryz.func319] at hf; cases hf; exact plan_ok319
  refine List.forall_mem_cons.2 ⟨fun fn hf => ?_, ?_⟩
  · rw [Tryz.func322] at hf; cases hf; exact plan_ok322
  refine List.forall_mem_cons.2 ⟨fun fn hf => ?_, ?_⟩
  · rw [Tryz.func350] at hf; cases hf; exact plan_ok350
  refine List.forall_mem_cons.2 ⟨fun fn hf => ?_, ?_⟩
  · rw [Tryz.func352] at hf; cases hf; exact plan_ok352
  refine List.forall_mem_cons.2 ⟨fun fn hf => ?_, ?_⟩
  · rw [Tryz.func353] at hf; cases hf; exact plan_ok353
  refine List.forall_mem_cons.2 ⟨fun fn hf => ?_, ?_⟩
  · rw [Tryz.func357] at hf; cases hf; exact plan_ok357
  refine List.forall_mem_cons.2 ⟨fun fn hf => ?_, ?_⟩
  · rw [Tryz.func360] at hf; cases hf; exact plan_ok360
  refine List.forall_mem_cons.2 ⟨fun fn hf => ?_, ?_⟩
  · rw [Tryz.func361] at hf; cases hf; exact plan_ok361
  refine List.forall_mem_cons.2 ⟨fun fn hf => ?_, ?_⟩
  · rw [Tryz.func365] at hf; cases hf; exact plan_ok365
  refine List.forall_mem_cons.2 ⟨fun fn hf => ?_, ?_⟩
  · rw [Tryz.func367] at hf; cases hf; exact plan_ok367
  refine List.forall_mem_cons.2 ⟨fun fn hf => ?_, ?_⟩
  · rw [Tryz.func368] at hf; cases hf; exact plan_ok368
  refine List.forall_mem_cons.2 ⟨fun fn hf => ?_, ?_⟩
  · rw [Tryz.func372] at hf; cases hf; exact plan_ok372
  refine List.forall_mem_cons.2 ⟨fun fn hf => ?_, ?_⟩
  · rw [Tryz.func374] at hf; cases hf; exact plan_ok374
  refine List.forall_mem_cons.2 ⟨fun fn hf => ?_, ?_⟩
  · rw [Tryz.func375] at hf; cases hf; exact plan_ok375
  refine List.forall_mem_cons.2 ⟨fun fn hf => ?_, ?_⟩
  · rw [Tryz.func379] at hf; cases hf; exact plan_ok379
  refine List.forall_mem_cons.2 ⟨fun fn hf => ?_, ?_⟩
  · rw [Tryz.func381] at hf; cases hf; exact plan_ok381
  refine List.forall_mem_cons.2 ⟨fun fn hf => ?_, ?_⟩
  · rw [Tryz.func386] at hf; cases hf; exact plan_ok386
  refine List.forall_mem_cons.2 ⟨fun fn hf => ?_, ?_⟩
  · rw [Tryz.func387] at hf; cases hf; exact plan_ok387
  refine List.forall_mem_cons.2 ⟨fun fn hf => ?_, ?_⟩
  · rw [Tryz.func388] at hf; cases hf; exact plan_ok388
  refine List.forall_mem_cons.2 ⟨fun fn hf => ?_, ?_⟩
  · rw [Tryz.func389] at hf; cases hf; exact plan_ok389
  exact fun x hx => by cases hx
theorem planFs_cut : planFs = [3, 14, 16, 17, 18, 19, 20, 22, 23, 30, 31, 36, 38, 41, 44, 45, 47, 49, 50, 51, 53, 54, 56, 57, 61, 69, 71, 72, 73, 75, 76, 78, 88, 92, 95, 99, 101, 102, 104, 105] ++ [106, 107, 108, 109, 112, 115, 116, 117, 121, 123, 128, 130, 134, 135, 137, 138, 140, 152, 153, 154, 155, 156, 159, 173, 174, 178, 179, 187, 189, 190, 192, 194, 197, 203, 206, 210, 214, 215, 216, 217] ++ [218, 219, 220, 231, 234, 239, 244, 245, 246, 248, 252, 253, 254, 255, 257, 262, 265, 266, 267, 271, 273, 274, 275, 277, 286, 287, 288, 289, 290, 294, 296, 297, 301, 303, 304, 309, 311, 312, 313, 315] ++ [316, 317, 318, 319, 322, 350, 352, 353, 357, 360, 361, 365, 367, 368, 372, 374, 375, 379, 381, 386, 387, 388, 389] := by kernel_rfl
theorem plans_ok : PlansOk Tryz.prog plans := by
  have key : ∀ f fn, Tryz.prog.funcs[f]? = some fn → bodyOk plans f fn = true := by
    intro f fn hf
    have h := List.all_eq_true.1 plans_rest (fn, f) (by rw [List.mem_zipIdx_iff_getElem?]; simpa using hf)
    simp only [Bool.or_eq_true] at h
    rcases h with h | h
    · have h := List.contains_iff_mem.1 h
      rw [planFs_cut] at h
      rcases List.mem_append.1 h with h | h
      rotate_left
      · exact plans_lot3 f h fn hf
      rcases List.mem_append.1 h with h | h
      rotate_left
      · exact plans_lot2 f h fn hf
      rcases List.mem_append.1 h with h | h
      rotate_left
      · exact plans_lot1 f h fn hf
      exact plans_lot0 f h fn hf
    · exact h
  refine ⟨fun f fn c hf hc => ?_, fun a ha => by cases ha⟩
  simpa [bodyOk, hc] using key f fn hf

end Go.Proofs.YtjpjmhcpomkjmaaGreat

/-
  The plans serve every region that draws its order. Printed by plans.py.
-/
import Derived.Test.YtjjfmhaakickcaaGreatCe
import Derived.Test.YtjjfmhaakickcaaGreatProg
import Derived.Test.YtjjfmhaakickcaaGreatPls
set_option linter.unusedVariables false
set_option linter.unusedSimpArgs false
namespace Go.Proofs.YtjjfmhaakickcaaGreat
open Go

theorem follows_mixed : Tryz.prog.follows .mixedOrders = true := by kernel_rfl
def bodyOk (pl : Plans) (f : FuncId) (fn : Func) : Bool := match fn.body with
  | some c => codeOk pl f c
  | none => true
set_option maxRecDepth 100000 in
theorem plan_ok7 : bodyOk plans 7 Tryz.f7 = true := by kernel_rfl
set_option maxRecDepth 100000 in
theorem plan_ok10 : bodyOk plans 10 Tryz.f10 = true := by kernel_rfl
set_option maxRecDepth 100000 in
theorem plan_ok13 : bodyOk plans 13 Tryz.f13 = true := by kernel_rfl
set_option maxRecDepth 100000 in
theorem plan_ok14 : bodyOk plans 14 Tryz.f14 = true := by kernel_rfl
set_option maxRecDepth 100000 in
theorem plan_ok15 : bodyOk plans 15 Tryz.f15 = true := by kernel_rfl
set_option maxRecDepth 100000 in
theorem plan_ok16 : bodyOk plans 16 Tryz.f16 = true := by kernel_rfl
set_option maxRecDepth 100000 in
theorem plan_ok17 : bodyOk plans 17 Tryz.f17 = true := by kernel_rfl
set_option maxRecDepth 100000 in
theorem plan_ok21 : bodyOk plans 21 Tryz.f21 = true := by kernel_rfl
set_option maxRecDepth 100000 in
theorem plan_ok22 : bodyOk plans 22 Tryz.f22 = true := by kernel_rfl
set_option maxRecDepth 100000 in
theorem plan_ok24 : bodyOk plans 24 Tryz.f24 = true := by kernel_rfl
set_option maxRecDepth 100000 in
theorem plan_ok26 : bodyOk plans 26 Tryz.f26 = true := by kernel_rfl
set_option maxRecDepth 100000 in
theorem plan_ok27 : bodyOk plans 27 Tryz.f27 = true := by kernel_rfl
set_option maxRecDepth 100000 in
theorem plan_ok34 : bodyOk plans 34 Tryz.f34 = true := by kernel_rfl
set_option maxRecDepth 100000 in
theorem plan_ok36 : bodyOk plans 36 Tryz.f36 = true := by kernel_rfl
set_option maxRecDepth 100000 in
theorem plan_ok39 : bodyOk plans 39 Tryz.f39 = true := by kernel_rfl
set_option maxRecDepth 100000 in
theorem plan_ok42 : bodyOk plans 42 Tryz.f42 = true := by kernel_rfl
set_option maxRecDepth 100000 in
theorem plan_ok43 : bodyOk plans 43 Tryz.f43 = true := by kernel_rfl
set_option maxRecDepth 100000 in
theorem plan_ok64 : bodyOk plans 64 Tryz.f64 = true := by kernel_rfl
set_option maxRecDepth 100000 in
theorem plan_ok66 : bodyOk plans 66 Tryz.f66 = true := by kernel_rfl
set_option maxRecDepth 100000 in
theorem plan_ok67 : bodyOk plans 67 Tryz.f67 = true := by kernel_rfl
set_option maxRecDepth 100000 in
theorem plan_ok68 : bodyOk plans 68 Tryz.f68 = true := by kernel_rfl
set_option maxRecDepth 100000 in
theorem plan_ok70 : bodyOk plans 70 Tryz.f70 = true := by kernel_rfl
set_option maxRecDepth 100000 in
theorem plan_ok71 : bodyOk plans 71 Tryz.f71 = true := by kernel_rfl
set_option maxRecDepth 100000 in
theorem plan_ok72 : bodyOk plans 72 Tryz.f72 = true := by kernel_rfl
set_option maxRecDepth 100000 in
theorem plan_ok85 : bodyOk plans 85 Tryz.f85 = true := by kernel_rfl
set_option maxRecDepth 100000 in
theorem plan_ok87 : bodyOk plans 87 Tryz.f87 = true := by kernel_rfl
set_option maxRecDepth 100000 in
theorem plan_ok91 : bodyOk plans 91 Tryz.f91 = true := by kernel_rfl
set_option maxRecDepth 100000 in
theorem plan_ok93 : bodyOk plans 93 Tryz.f93 = true := by kernel_rfl
set_option maxRecDepth 100000 in
theorem plan_ok94 : bodyOk plans 94 Tryz.f94 = true := by kernel_rfl
set_option maxRecDepth 100000 in
theorem plan_ok95 : bodyOk plans 95 Tryz.f95 = true := by kernel_rfl
set_option maxRecDepth 100000 in
theorem plan_ok96 : bodyOk plans 96 Tryz.f96 = true := by kernel_rfl
set_option maxRecDepth 100000 in
theorem plan_ok97 : bodyOk plans 97 Tryz.f97 = true := by kernel_rfl
set_option maxRecDepth 100000 in
theorem plan_ok98 : bodyOk plans 98 Tryz.f98 = true := by kernel_rfl
set_option maxRecDepth 100000 in
theorem plan_ok99 : bodyOk plans 99 Tryz.f99 = true := by kernel_rfl
set_option maxRecDepth 100000 in
theorem plan_ok102 : bodyOk plans 102 Tryz.f102 = true := by kernel_rfl
set_option maxRecDepth 100000 in
theorem plan_ok105 : bodyOk plans 105 Tryz.f105 = true := by kernel_rfl
set_option maxRecDepth 100000 in
theorem plan_ok106 : bodyOk plans 106 Tryz.f106 = true := by kernel_rfl
set_option maxRecDepth 100000 in
theorem plan_ok107 : bodyOk plans 107 Tryz.f107 = true := by kernel_rfl
set_option maxRecDepth 100000 in
theorem plan_ok112 : bodyOk plans 112 Tryz.f112 = true := by kernel_rfl
set_option maxRecDepth 100000 in
theorem plan_ok113 : bodyOk plans 113 Tryz.f113 = true := by kernel_rfl
set_option maxRecDepth 100000 in
theorem plan_ok114 : bodyOk plans 114 Tryz.f114 = true := by kernel_rfl
set_option maxRecDepth 100000 in
theorem plan_ok115 : bodyOk plans 115 Tryz.f115 = true := by kernel_rfl
set_option maxRecDepth 100000 in
theorem plan_ok118 : bodyOk plans 118 Tryz.f118 = true := by kernel_rfl
set_option maxRecDepth 100000 in
theorem plan_ok119 : bodyOk plans 119 Tryz.f119 = true := by kernel_rfl
set_option maxRecDepth 100000 in
theorem plan_ok120 : bodyOk plans 120 Tryz.f120 = true := by kernel_rfl
set_option maxRecDepth 100000 in
theorem plan_ok123 : bodyOk plans 123 Tryz.f123 = true := by kernel_rfl
set_option maxRecDepth 100000 in
theorem plan_ok139 : bodyOk plans 139 Tryz.f139 = true := by kernel_rfl
set_option maxRecDepth 100000 in
theorem plan_ok140 : bodyOk plans 140 Tryz.f140 = true := by kernel_rfl
set_option maxRecDepth 100000 in
theorem plan_ok144 : bodyOk plans 144 Tryz.f144 = true := by kernel_rfl
set_option maxRecDepth 100000 in
theorem plan_ok145 : bodyOk plans 145 Tryz.f145 = true := by kernel_rfl
set_option maxRecDepth 100000 in
theorem plan_ok155 : bodyOk plans 155 Tryz.f155 = true := by kernel_rfl
set_option maxRecDepth 100000 in
theorem plan_ok158 : bodyOk plans 158 Tryz.f158 = true := by kernel_rfl
set_option maxRecDepth 100000 in
theorem plan_ok160 : bodyOk plans 160 Tryz.f160 = true := by kernel_rfl
set_option maxRecDepth 100000 in
theorem plan_ok164 : bodyOk plans 164 Tryz.f164 = true := by kernel_rfl
set_option maxRecDepth 100000 in
theorem plan_ok166 : bodyOk plans 166 Tryz.f166 = true := by kernel_rfl
set_option maxRecDepth 100000 in
theorem plan_ok167 : bodyOk plans 167 Tryz.f167 = true := by kernel_rfl
set_option maxRecDepth 100000 in
theorem plan_ok168 : bodyOk plans 168 Tryz.f168 = true := by kernel_rfl
set_option maxRecDepth 100000 in
theorem plan_ok174 : bodyOk plans 174 Tryz.f174 = true := by kernel_rfl
set_option maxRecDepth 100000 in
theorem plan_ok175 : bodyOk plans 175 Tryz.f175 = true := by kernel_rfl
set_option maxRecDepth 100000 in
theorem plan_ok176 : bodyOk plans 176 Tryz.f176 = true := by kernel_rfl
set_option maxRecDepth 100000 in
theorem plan_ok177 : bodyOk plans 177 Tryz.f177 = true := by kernel_rfl
set_option maxRecDepth 100000 in
theorem plan_ok178 : bodyOk plans 178 Tryz.f178 = true := by kernel_rfl
set_option maxRecDepth 100000 in
theorem plan_ok179 : bodyOk plans 179 Tryz.f179 = true := by kernel_rfl
set_option maxRecDepth 100000 in
theorem plan_ok180 : bodyOk plans 180 Tryz.f180 = true := by kernel_rfl
set_option maxRecDepth 100000 in
theorem plan_ok188 : bodyOk plans 188 Tryz.f188 = true := by kernel_rfl
set_option maxRecDepth 100000 in
theorem plan_ok189 : bodyOk plans 189 Tryz.f189 = true := by kernel_rfl
set_option maxRecDepth 100000 in
theorem plan_ok196 : bodyOk plans 196 Tryz.f196 = true := by kernel_rfl
set_option maxRecDepth 100000 in
theorem plan_ok198 : bodyOk plans 198 Tryz.f198 = true := by kernel_rfl
set_option maxRecDepth 100000 in
theorem plan_ok199 : bodyOk plans 199 Tryz.f199 = true := by kernel_rfl
set_option maxRecDepth 100000 in
theorem plan_ok200 : bodyOk plans 200 Tryz.f200 = true := by kernel_rfl
set_option maxRecDepth 100000 in
theorem plan_ok202 : bodyOk plans 202 Tryz.f202 = true := by kernel_rfl
set_option maxRecDepth 100000 in
theorem plan_ok206 : bodyOk plans 206 Tryz.f206 = true := by kernel_rfl
set_option maxRecDepth 100000 in
theorem plan_ok207 : bodyOk plans 207 Tryz.f207 = true := by kernel_rfl
set_option maxRecDepth 100000 in
theorem plan_ok208 : bodyOk plans 208 Tryz.f208 = true := by kernel_rfl
set_option maxRecDepth 100000 in
theorem plan_ok209 : bodyOk plans 209 Tryz.f209 = true := by kernel_rfl
set_option maxRecDepth 100000 in
theorem plan_ok211 : bodyOk plans 211 Tryz.f211 = true := by kernel_rfl
set_option maxRecDepth 100000 in
theorem plan_ok216 : bodyOk plans 216 Tryz.f216 = true := by kernel_rfl
set_option maxRecDepth 100000 in
theorem plan_ok219 : bodyOk plans 219 Tryz.f219 = true := by kernel_rfl
set_option maxRecDepth 100000 in
theorem plan_ok220 : bodyOk plans 220 Tryz.f220 = true := by kernel_rfl
set_option maxRecDepth 100000 in
theorem plan_ok221 : bodyOk plans 221 Tryz.f221 = true := by kernel_rfl
set_option maxRecDepth 100000 in
theorem plan_ok222 : bodyOk plans 222 Tryz.f222 = true := by kernel_rfl
set_option maxRecDepth 100000 in
theorem plan_ok225 : bodyOk plans 225 Tryz.f225 = true := by kernel_rfl
set_option maxRecDepth 100000 in
theorem plan_ok229 : bodyOk plans 229 Tryz.f229 = true := by kernel_rfl
set_option maxRecDepth 100000 in
theorem plan_ok230 : bodyOk plans 230 Tryz.f230 = true := by kernel_rfl
set_option maxRecDepth 100000 in
theorem plan_ok231 : bodyOk plans 231 Tryz.f231 = true := by kernel_rfl
set_option maxRecDepth 100000 in
theorem plan_ok238 : bodyOk plans 238 Tryz.f238 = true := by kernel_rfl
set_option maxRecDepth 100000 in
theorem plan_ok239 : bodyOk plans 239 Tryz.f239 = true := by kernel_rfl
set_option maxRecDepth 100000 in
theorem plan_ok240 : bodyOk plans 240 Tryz.f240 = true := by kernel_rfl
set_option maxRecDepth 100000 in
theorem plan_ok241 : bodyOk plans 241 Tryz.f241 = true := by kernel_rfl
set_option maxRecDepth 100000 in
theorem plan_ok242 : bodyOk plans 242 Tryz.f242 = true := by kernel_rfl
set_option maxRecDepth 100000 in
theorem plan_ok244 : bodyOk plans 244 Tryz.f244 = true := by kernel_rfl
set_option maxRecDepth 100000 in
theorem plan_ok245 : bodyOk plans 245 Tryz.f245 = true := by kernel_rfl
set_option maxRecDepth 100000 in
theorem plan_ok246 : bodyOk plans 246 Tryz.f246 = true := by kernel_rfl
set_option maxRecDepth 100000 in
theorem plan_ok248 : bodyOk plans 248 Tryz.f248 = true := by kernel_rfl
set_option maxRecDepth 100000 in
theorem plan_ok249 : bodyOk plans 249 Tryz.f249 = true := by kernel_rfl
set_option maxRecDepth 100000 in
theorem plan_ok250 : bodyOk plans 250 Tryz.f250 = true := by kernel_rfl
set_option maxRecDepth 100000 in
theorem plan_ok251 : bodyOk plans 251 Tryz.f251 = true := by kernel_rfl
set_option maxRecDepth 100000 in
theorem plan_ok258 : bodyOk plans 258 Tryz.f258 = true := by kernel_rfl
set_option maxRecDepth 100000 in
theorem plan_ok259 : bodyOk plans 259 Tryz.f259 = true := by kernel_rfl
set_option maxRecDepth 100000 in
theorem plan_ok261 : bodyOk plans 261 Tryz.f261 = true := by kernel_rfl
set_option maxRecDepth 100000 in
theorem plan_ok264 : bodyOk plans 264 Tryz.f264 = true := by kernel_rfl
def planFs : List Nat := [7, 10, 13, 14, 15, 16, 17, 21, 22, 24, 26, 27, 34, 36, 39, 42, 43, 64, 66, 67, 68, 70, 71, 72, 85, 87, 91, 93, 94, 95, 96, 97, 98, 99, 102, 105, 106, 107, 112, 113, 114, 115, 118, 119, 120, 123, 139, 140, 144, 145, 155, 158, 160, 164, 166, 167, 168, 174, 175, 176, 177, 178, 179, 180, 188, 189, 196, 198, 199, 200, 202, 206, 207, 208, 209, 211, 216, 219, 220, 221, 222, 225, 229, 230, 231, 238, 239, 240, 241, 242, 244, 245, 246, 248, 249, 250, 251, 258, 259, 261, 264]
set_option maxRecDepth 100000 in
theorem plans_rest : (Tryz.prog.funcs.toList.zipIdx.all fun x => planFs.contains x.2 || bodyOk plans x.2 x.1) = true := by kernel_rfl
theorem plans_lot0 : ∀ f ∈ ([7, 10, 13, 14, 15, 16, 17, 21, 22, 24, 26, 27, 34, 36, 39, 42, 43, 64, 66, 67, 68, 70, 71, 72, 85, 87, 91, 93, 94, 95, 96, 97, 98, 99, 102, 105, 106, 107, 112, 113] : List Nat), ∀ fn, Tryz.prog.funcs[f]? = some fn → bodyOk plans f fn = true := by
  refine List.forall_mem_cons.2 ⟨fun fn hf => ?_, ?_⟩
  · rw [Tryz.func7] at hf; cases hf; exact plan_ok7
  refine List.forall_mem_cons.2 ⟨fun fn hf => ?_, ?_⟩
  · rw [Tryz.func10] at hf; cases hf; exact plan_ok10
  refine List.forall_mem_cons.2 ⟨fun fn hf => ?_, ?_⟩
  · rw [Tryz.func13] at hf; cases hf; exact plan_ok13
  refine List.forall_mem_cons.2 ⟨fun fn hf => ?_, ?_⟩
  · rw [Tryz.func14] at hf; cases hf; exact plan_ok14
  refine List.forall_mem_cons.2 ⟨fun fn hf => ?_, ?_⟩
  · rw [Tryz.func15] at hf; cases hf; exact plan_ok15
  refine List.forall_mem_cons.2 ⟨fun fn hf => ?_, ?_⟩
  · rw [Tryz.func16] at hf; cases hf; exact plan_ok16
  refine List.forall_mem_cons.2 ⟨fun fn hf => ?_, ?_⟩
  · rw [Tryz.func17] at hf; cases hf; exact plan_ok17
  refine List.forall_mem_cons.2 ⟨fun fn hf => ?_, ?_⟩
  · rw [Tryz.func21] at hf; cases hf; exact plan_ok21
  refine List.forall_mem_cons.2 ⟨fun fn hf => ?_, ?_⟩
  · rw [Tryz.func22] at hf; cases hf; exact plan_ok22
  refine List.forall_mem_cons.2 ⟨fun fn hf => ?_, ?_⟩
  · rw [Tryz.func24] at hf; cases hf; exact plan_ok24
  refine List.forall_mem_cons.2 ⟨fun fn hf => ?_, ?_⟩
  · rw [Tryz.func26] at hf; cases hf; exact plan_ok26
  refine List.forall_mem_cons.2 ⟨fun fn hf => ?_, ?_⟩
  · rw [Tryz.func27] at hf; cases hf; exact plan_ok27
  refine List.forall_mem_cons.2 ⟨fun fn hf => ?_, ?_⟩
  · rw [Tryz.func34] at hf; cases hf; exact plan_ok34
  refine List.forall_mem_cons.2 ⟨fun fn hf => ?_, ?_⟩
  · rw [Tryz.func36] at hf; cases hf; exact plan_ok36
  refine List.forall_mem_cons.2 ⟨fun fn hf => ?_, ?_⟩
  · rw [Tryz.func39] at hf; cases hf; exact plan_ok39
  refine List.forall_mem_cons.2 ⟨fun fn hf => ?_, ?_⟩
  · rw [Tryz.func42] at hf; cases hf; exact plan_ok42
  refine List.forall_mem_cons.2 ⟨fun fn hf => ?_, ?_⟩
  · rw [Tryz.func43] at hf; cases hf; exact plan_ok43
  refine List.forall_mem_cons.2 ⟨fun fn hf => ?_, ?_⟩
  · rw [Tryz.func64] at hf; cases hf; exact plan_ok64
  refine List.forall_mem_cons.2 ⟨fun fn hf => ?_, ?_⟩
  · rw [Tryz.func66] at hf; cases hf; exact plan_ok66
  refine List.forall_mem_cons.2 ⟨fun fn hf => ?_, ?_⟩
  · rw [Tryz.func67] at hf; cases hf; exact plan_ok67
  refine List.forall_mem_cons.2 ⟨fun fn hf => ?_, ?_⟩
  · rw [Tryz.func68] at hf; cases hf; exact plan_ok68
  refine List.forall_mem_cons.2 ⟨fun fn hf => ?_, ?_⟩
  · rw [Tryz.func70] at hf; cases hf; exact plan_ok70
  refine List.forall_mem_cons.2 ⟨fun fn hf => ?_, ?_⟩
  · rw [Tryz.func71] at hf; cases hf; exact plan_ok71
  refine List.forall_mem_cons.2 ⟨fun fn hf => ?_, ?_⟩
  · rw [Tryz.func72] at hf; cases hf; exact plan_ok72
  refine List.forall_mem_cons.2 ⟨fun fn hf => ?_, ?_⟩
  · rw [Tryz.func85] at hf; cases hf; exact plan_ok85
  refine List.forall_mem_cons.2 ⟨fun fn hf => ?_, ?_⟩
  · rw [Tryz.func87] at hf; cases hf; exact plan_ok87
  refine List.forall_mem_cons.2 ⟨fun fn hf => ?_, ?_⟩
  · rw [Tryz.func91] at hf; cases hf; exact plan_ok91
  refine List.forall_mem_cons.2 ⟨fun fn hf => ?_, ?_⟩
  · rw [Tryz.func93] at hf; cases hf; exact plan_ok93
  refine List.forall_mem_cons.2 ⟨fun fn hf => ?_, ?_⟩
  · rw [Tryz.func94] at hf; cases hf; exact plan_ok94
  refine List.forall_mem_cons.2 ⟨fun fn hf => ?_, ?_⟩
  · rw [Tryz.func95] at hf; cases hf; exact plan_ok95
  refine List.forall_mem_cons.2 ⟨fun fn hf => ?_, ?_⟩
  · rw [Tryz.func96] at hf; cases hf; exact plan_ok96
  refine List.forall_mem_cons.2 ⟨fun fn hf => ?_, ?_⟩
  · rw [Tryz.func97] at hf; cases hf; exact plan_ok97
  refine List.forall_mem_cons.2 ⟨fun fn hf => ?_, ?_⟩
  · rw [Tryz.func98] at hf; cases hf; exact plan_ok98
  refine List.forall_mem_cons.2 ⟨fun fn hf => ?_, ?_⟩
  · rw [Tryz.func99] at hf; cases hf; exact plan_ok99
  refine List.forall_mem_cons.2 ⟨fun fn hf => ?_, ?_⟩
  · rw [Tryz.func102] at hf; cases hf; exact plan_ok102
  refine List.forall_mem_cons.2 ⟨fun fn hf => ?_, ?_⟩
  · rw [Tryz.func105] at hf; cases hf; exact plan_ok105
  refine List.forall_mem_cons.2 ⟨fun fn hf => ?_, ?_⟩
  · rw [Tryz.func106] at hf; cases hf; exact plan_ok106
  refine List.forall_mem_cons.2 ⟨fun fn hf => ?_, ?_⟩
  · rw [Tryz.func107] at hf; cases hf; exact plan_ok107
  refine List.forall_mem_cons.2 ⟨fun fn hf => ?_, ?_⟩
  · rw [Tryz.func112] at hf; cases hf; exact plan_ok112
  refine List.forall_mem_cons.2 ⟨fun fn hf => ?_, ?_⟩
  · rw [Tryz.func113] at hf; cases hf; exact plan_ok113
  exact fun x hx => by cases hx
theorem plans_lot1 : ∀ f ∈ ([114, 115, 118, 119, 120, 123, 139, 140, 144, 145, 155, 158, 160, 164, 166, 167, 168, 174, 175, 176, 177, 178, 179, 180, 188, 189, 196, 198, 199, 200, 202, 206, 207, 208, 209, 211, 216, 219, 220, 221] : List Nat), ∀ fn, Tryz.prog.funcs[f]? = some fn → bodyOk plans f fn = true := by
  refine List.forall_mem_cons.2 ⟨fun fn hf => ?_, ?_⟩
  · rw [Tryz.func114] at hf; cases hf; exact plan_ok114
  refine List.forall_mem_cons.2 ⟨fun fn hf => ?_, ?_⟩
  · rw [Tryz.func115] at hf; cases hf; exact plan_ok115
  refine List.forall_mem_cons.2 ⟨fun fn hf => ?_, ?_⟩
  · rw [Tryz.func118] at hf; cases hf; exact plan_ok118
  refine List.forall_mem_cons.2 ⟨fun fn hf => ?_, ?_⟩
  · rw [Tryz.func119] at hf; cases hf; exact plan_ok119
  refine List.forall_mem_cons.2 ⟨fun fn hf => ?_, ?_⟩
  · rw [Tryz.func120] at hf; cases hf; exact plan_ok120
  refine List.forall_mem_cons.2 ⟨fun fn hf => ?_, ?_⟩
  · rw [Tryz.func123] at hf; cases hf; exact plan_ok123
  refine List.forall_mem_cons.2 ⟨fun fn hf => ?_, ?_⟩
  · rw [Tryz.func139] at hf; cases hf; exact plan_ok139
  refine List.forall_mem_cons.2 ⟨fun fn hf => ?_, ?_⟩
  · rw [Tryz.func140] at hf; cases hf; exact plan_ok140
  refine List.forall_mem_cons.2 ⟨fun fn hf => ?_, ?_⟩
  · rw [Tryz.func144] at hf; cases hf; exact plan_ok144
  refine List.forall_mem_cons.2 ⟨fun fn hf => ?_, ?_⟩
  · rw [Tryz.func145] at hf; cases hf; exact plan_ok145
  refine List.forall_mem_cons.2 ⟨fun fn hf => ?_, ?_⟩
  · rw [Tryz.func155] at hf; cases hf; exact plan_ok155
  refine List.forall_mem_cons.2 ⟨fun fn hf => ?_, ?_⟩
  · rw [Tryz.func158] at hf; cases hf; exact plan_ok158
  refine List.forall_mem_cons.2 ⟨fun fn hf => ?_, ?_⟩
  · rw [Tryz.func160] at hf; cases hf; exact plan_ok160
  refine List.forall_mem_cons.2 ⟨fun fn hf => ?_, ?_⟩
  · rw [Tryz.func164] at hf; cases hf; exact plan_ok164
  refine List.forall_mem_cons.2 ⟨fun fn hf => ?_, ?_⟩
  · rw [Tryz.func166] at hf; cases hf; exact plan_ok166
  refine List.forall_mem_cons.2 ⟨fun fn hf => ?_, ?_⟩
  · rw [Tryz.func167] at hf; cases hf; exact plan_ok167
  refine List.forall_mem_cons.2 ⟨fun fn hf => ?_, ?_⟩
  · rw [Tryz.func168] at hf; cases hf; exact plan_ok168
  refine List.forall_mem_cons.2 ⟨fun fn hf => ?_, ?_⟩
  · rw [Tryz.func174] at hf; cases hf; exact plan_ok174
  refine List.forall_mem_cons.2 ⟨fun fn hf => ?_, ?_⟩
  · rw [Tryz.func175] at hf; cases hf; exact plan_ok175
  refine List.forall_mem_cons.2 ⟨fun fn hf => ?_, ?_⟩
  · rw [Tryz.func176] at hf; cases hf; exact plan_ok176
  refine List.forall_mem_cons.2 ⟨fun fn hf => ?_, ?_⟩
  · rw [Tryz.func177] at hf; cases hf; exact plan_ok177
  refine List.forall_mem_cons.2 ⟨fun fn hf => ?_, ?_⟩
  · rw [Tryz.func178] at hf; cases hf; exact plan_ok178
  refine List.forall_mem_cons.2 ⟨fun fn hf => ?_, ?_⟩
  · rw [Tryz.func179] at hf; cases hf; exact plan_ok179
  refine List.forall_mem_cons.2 ⟨fun fn hf => ?_, ?_⟩
  · rw [Tryz.func180] at hf; cases hf; exact plan_ok180
  refine List.forall_mem_cons.2 ⟨fun fn hf => ?_, ?_⟩
  · rw [Tryz.func188] at hf; cases hf; exact plan_ok188
  refine List.forall_mem_cons.2 ⟨fun fn hf => ?_, ?_⟩
  · rw [Tryz.func189] at hf; cases hf; exact plan_ok189
  refine List.forall_mem_cons.2 ⟨fun fn hf => ?_, ?_⟩
  · rw [Tryz.func196] at hf; cases hf; exact plan_ok196
  refine List.forall_mem_cons.2 ⟨fun fn hf => ?_, ?_⟩
  · rw [Tryz.func198] at hf; cases hf; exact plan_ok198
  refine List.forall_mem_cons.2 ⟨fun fn hf => ?_, ?_⟩
  · rw [Tryz.func199] at hf; cases hf; exact plan_ok199
  refine List.forall_mem_cons.2 ⟨fun fn hf => ?_, ?_⟩
  · rw [Tryz.func200] at hf; cases hf; exact plan_ok200
  refine List.forall_mem_cons.2 ⟨fun fn hf => ?_, ?_⟩
  · rw [Tryz.func202] at hf; cases hf; exact plan_ok202
  refine List.forall_mem_cons.2 ⟨fun fn hf => ?_, ?_⟩
  · rw [Tryz.func206] at hf; cases hf; exact plan_ok206
  refine List.forall_mem_cons.2 ⟨fun fn hf => ?_, ?_⟩
  · rw [Tryz.func207] at hf; cases hf; exact plan_ok207
  refine List.forall_mem_cons.2 ⟨fun fn hf => ?_, ?_⟩
  · rw [Tryz.func208] at hf; cases hf; exact plan_ok208
  refine List.forall_mem_cons.2 ⟨fun fn hf => ?_, ?_⟩
  · rw [Tryz.func209] at hf; cases hf; exact plan_ok209
  refine List.forall_mem_cons.2 ⟨fun fn hf => ?_, ?_⟩
  · rw [Tryz.func211] at hf; cases hf; exact plan_ok211
  refine List.forall_mem_cons.2 ⟨fun fn hf => ?_, ?_⟩
  · rw [Tryz.func216] at hf; cases hf; exact plan_ok216
  refine List.forall_mem_cons.2 ⟨fun fn hf => ?_, ?_⟩
  · rw [Tryz.func219] at hf; cases hf; exact plan_ok219
  refine List.forall_mem_cons.2 ⟨fun fn hf => ?_, ?_⟩
  · rw [Tryz.func220] at hf; cases hf; exact plan_ok220
  refine List.forall_mem_cons.2 ⟨fun fn hf => ?_, ?_⟩
  · rw [Tryz.func221] at hf; cases hf; exact plan_ok221
  exact fun x hx => by cases hx
theorem plans_lot2 : ∀ f ∈ ([222, 225, 229, 230, 231, 238, 239, 240, 241, 242, 244, 245, 246, 248, 249, 250, 251, 258, 259, 261, 264] : List Nat), ∀ fn, Tryz.prog.funcs[f]? = some fn → bodyOk plans f fn = true := by
  refine List.forall_mem_cons.2 ⟨fun fn hf => ?_, ?_⟩
  · rw [Tryz.func222] at hf; cases hf; exact plan_ok222
  refine List.forall_mem_cons.2 ⟨fun fn hf => ?_, ?_⟩
  · rw [Tryz.func225] at hf; cases hf; exact plan_ok225
  refine List.forall_mem_cons.2 ⟨fun fn hf => ?_, ?_⟩
  · rw [Tryz.func229] at hf; cases hf; exact plan_ok229
  refine List.forall_mem_cons.2 ⟨fun fn hf => ?_, ?_⟩
  · rw [Tryz.func230] at hf; cases hf; exact plan_ok230
  refine List.forall_mem_cons.2 ⟨fun fn hf => ?_, ?_⟩
  · rw [Tryz.func231] at hf; cases hf; exact plan_ok231
  refine List.forall_mem_cons.2 ⟨fun fn hf => ?_, ?_⟩
  · rw [Tryz.func238] at hf; cases hf; exact plan_ok238
  refine List.forall_mem_cons.2 ⟨fun fn hf => ?_, ?_⟩
  · rw [Tryz.func239] at hf; cases hf; exact plan_ok239
  refine List.forall_mem_cons.2 ⟨fun fn hf => ?_, ?_⟩
  · rw [Tryz.func240] at hf; cases hf; exact plan_ok240
  refine List.forall_mem_cons.2 ⟨fun fn hf => ?_, ?_⟩
  · rw [Tryz.func241] at hf; cases hf; exact plan_ok241
  refine List.forall_mem_cons.2 ⟨fun fn hf => ?_, ?_⟩
  · rw [Tryz.func242] at hf; cases hf; exact plan_ok242
  refine List.forall_mem_cons.2 ⟨fun fn hf => ?_, ?_⟩
  · rw [Tryz.func244] at hf; cases hf; exact plan_ok244
  refine List.forall_mem_cons.2 ⟨fun fn hf => ?_, ?_⟩
  · rw [Tryz.func245] at hf; cases hf; exact plan_ok245
  refine List.forall_mem_cons.2 ⟨fun fn hf => ?_, ?_⟩
  · rw [Tryz.func246] at hf; cases hf; exact plan_ok246
  refine List.forall_mem_cons.2 ⟨fun fn hf => ?_, ?_⟩
  · rw [Tryz.func248] at hf; cases hf; exact plan_ok248
  refine List.forall_mem_cons.2 ⟨fun fn hf => ?_, ?_⟩
  · rw [Tryz.func249] at hf; cases hf; exact plan_ok249
  refine List.forall_mem_cons.2 ⟨fun fn hf => ?_, ?_⟩
  · rw [Tryz.func250] at hf; cases hf; exact plan_ok250
  refine List.forall_mem_cons.2 ⟨fun fn hf => ?_, ?_⟩
  · rw [Tryz.func251] at hf; cases hf; exact plan_ok251
  refine List.forall_mem_cons.2 ⟨fun fn hf => ?_, ?_⟩
  · rw [Tryz.func258] at hf; cases hf; exact plan_ok258
  refine List.forall_mem_cons.2 ⟨fun fn hf => ?_, ?_⟩
  · rw [Tryz.func259] at hf; cases hf; exact plan_ok259
  refine List.forall_mem_cons.2 ⟨fun fn hf => ?_, ?_⟩
  · rw [Tryz.func261] at hf; cases hf; exact plan_ok261
  refine List.forall_mem_cons.2 ⟨fun fn hf => ?_, ?_⟩
  · rw [Tryz.func264] at hf; cases hf; exact plan_ok264
  exact fun x hx => by cases hx
theorem planFs_cut : planFs = [7, 10, 13, 14, 15, 16, 17, 21, 22, 24, 26, 27, 34, 36, 39, 42, 43, 64, 66, 67, 68, 70, 71, 72, 85, 87, 91, 93, 94, 95, 96, 97, 98, 99, 102, 105, 106, 107, 112, 113] ++ [114, 115, 118, 119, 120, 123, 139, 140, 144, 145, 155, 158, 160, 164, 166, 167, 168, 174, 175, 176, 177, 178, 179, 180, 188, 189, 196, 198, 199, 200, 202, 206, 207, 208, 209, 211, 216, 219, 220, 221] ++ [222, 225, 229, 230, 231, 238, 239, 240, 241, 242, 244, 245, 246, 248, 249, 250, 251, 258, 259, 261, 264] := by kernel_rfl
theorem plans_ok : PlansOk Tryz.prog plans := by
  have key : ∀ f fn, Tryz.prog.funcs[f]? = some fn → bodyOk plans f fn = true := by
    intro f fn hf
    have h := List.all_eq_true.1 plans_rest (fn, f) (by rw [List.mem_zipIdx_iff_getElem?]; simpa using hf)
    simp only [Bool.or_eq_true] at h
    rcases h with h | h
    · have h := List.contains_iff_mem.1 h
      rw [planFs_cut] at h
      rcases List.mem_append.1 h with h | h
      rotate_left
      · exact plans_lot2 f h fn hf
      rcases List.mem_append.1 h with h | h
      rotate_left
      · exact plans_lot1 f h fn hf
      exact plans_lot0 f h fn hf
    · exact h
  refine ⟨fun f fn c hf hc => ?_, fun a ha => by cases ha⟩
  simpa [bodyOk, hc] using key f fn hf

end Go.Proofs.YtjjfmhaakickcaaGreat

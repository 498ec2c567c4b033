/-
  The plans serve every region that draws its order. Printed by plans.py.
-/
import Derived.Test.YtfiefdkgneilkaaGreatSxs
import Derived.Test.YtfiefdkgneilkaaGreatProg
import Derived.Test.YtfiefdkgneilkaaGreatPls
set_option linter.unusedVariables false
set_option linter.unusedSimpArgs false
namespace Go.Proofs.YtfiefdkgneilkaaGreat
open Go

theorem follows_mixed : Tryz.prog.follows .mixedOrders = true := by kernel_rfl
def bodyOk (pl : Plans) (f : FuncId) (fn : Func) : Bool := match fn.body with
  | some c => codeOk pl f c
  | none => true
set_option maxRecDepth 100000 in
theorem plan_ok20 : bodyOk plans 20 Tryz.f20 = true := by kernel_rfl
set_option maxRecDepth 100000 in
theorem plan_ok22 : bodyOk plans 22 Tryz.f22 = true := by kernel_rfl
set_option maxRecDepth 100000 in
theorem plan_ok24 : bodyOk plans 24 Tryz.f24 = true := by kernel_rfl
set_option maxRecDepth 100000 in
theorem plan_ok27 : bodyOk plans 27 Tryz.f27 = true := by kernel_rfl
set_option maxRecDepth 100000 in
theorem plan_ok28 : bodyOk plans 28 Tryz.f28 = true := by kernel_rfl
set_option maxRecDepth 100000 in
theorem plan_ok39 : bodyOk plans 39 Tryz.f39 = true := by kernel_rfl
set_option maxRecDepth 100000 in
theorem plan_ok41 : bodyOk plans 41 Tryz.f41 = true := by kernel_rfl
set_option maxRecDepth 100000 in
theorem plan_ok42 : bodyOk plans 42 Tryz.f42 = true := by kernel_rfl
set_option maxRecDepth 100000 in
theorem plan_ok50 : bodyOk plans 50 Tryz.f50 = true := by kernel_rfl
set_option maxRecDepth 100000 in
theorem plan_ok60 : bodyOk plans 60 Tryz.f60 = true := by kernel_rfl
set_option maxRecDepth 100000 in
theorem plan_ok64 : bodyOk plans 64 Tryz.f64 = true := by kernel_rfl
set_option maxRecDepth 100000 in
theorem plan_ok65 : bodyOk plans 65 Tryz.f65 = true := by kernel_rfl
set_option maxRecDepth 100000 in
theorem plan_ok68 : bodyOk plans 68 Tryz.f68 = true := by kernel_rfl
set_option maxRecDepth 100000 in
theorem plan_ok69 : bodyOk plans 69 Tryz.f69 = true := by kernel_rfl
set_option maxRecDepth 100000 in
theorem plan_ok70 : bodyOk plans 70 Tryz.f70 = true := by kernel_rfl
set_option maxRecDepth 100000 in
theorem plan_ok71 : bodyOk plans 71 Tryz.f71 = true := by kernel_rfl
set_option maxRecDepth 100000 in
theorem plan_ok74 : bodyOk plans 74 Tryz.f74 = true := by kernel_rfl
set_option maxRecDepth 100000 in
theorem plan_ok75 : bodyOk plans 75 Tryz.f75 = true := by kernel_rfl
set_option maxRecDepth 100000 in
theorem plan_ok76 : bodyOk plans 76 Tryz.f76 = true := by kernel_rfl
set_option maxRecDepth 100000 in
theorem plan_ok77 : bodyOk plans 77 Tryz.f77 = true := by kernel_rfl
set_option maxRecDepth 100000 in
theorem plan_ok81 : bodyOk plans 81 Tryz.f81 = true := by kernel_rfl
set_option maxRecDepth 100000 in
theorem plan_ok85 : bodyOk plans 85 Tryz.f85 = true := by kernel_rfl
set_option maxRecDepth 100000 in
theorem plan_ok87 : bodyOk plans 87 Tryz.f87 = true := by kernel_rfl
set_option maxRecDepth 100000 in
theorem plan_ok90 : bodyOk plans 90 Tryz.f90 = true := by kernel_rfl
set_option maxRecDepth 100000 in
theorem plan_ok92 : bodyOk plans 92 Tryz.f92 = true := by kernel_rfl
set_option maxRecDepth 100000 in
theorem plan_ok93 : bodyOk plans 93 Tryz.f93 = true := by kernel_rfl
set_option maxRecDepth 100000 in
theorem plan_ok96 : bodyOk plans 96 Tryz.f96 = true := by kernel_rfl
set_option maxRecDepth 100000 in
theorem plan_ok98 : bodyOk plans 98 Tryz.f98 = true := by kernel_rfl
set_option maxRecDepth 100000 in
theorem plan_ok99 : bodyOk plans 99 Tryz.f99 = true := by kernel_rfl
set_option maxRecDepth 100000 in
theorem plan_ok100 : bodyOk plans 100 Tryz.f100 = true := by kernel_rfl
set_option maxRecDepth 100000 in
theorem plan_ok101 : bodyOk plans 101 Tryz.f101 = true := by kernel_rfl
set_option maxRecDepth 100000 in
theorem plan_ok102 : bodyOk plans 102 Tryz.f102 = true := by kernel_rfl
set_option maxRecDepth 100000 in
theorem plan_ok117 : bodyOk plans 117 Tryz.f117 = true := by kernel_rfl
set_option maxRecDepth 100000 in
theorem plan_ok120 : bodyOk plans 120 Tryz.f120 = true := by kernel_rfl
set_option maxRecDepth 100000 in
theorem plan_ok124 : bodyOk plans 124 Tryz.f124 = true := by kernel_rfl
set_option maxRecDepth 100000 in
theorem plan_ok127 : bodyOk plans 127 Tryz.f127 = true := by kernel_rfl
set_option maxRecDepth 100000 in
theorem plan_ok137 : bodyOk plans 137 Tryz.f137 = true := by kernel_rfl
set_option maxRecDepth 100000 in
theorem plan_ok138 : bodyOk plans 138 Tryz.f138 = true := by kernel_rfl
set_option maxRecDepth 100000 in
theorem plan_ok144 : bodyOk plans 144 Tryz.f144 = true := by kernel_rfl
set_option maxRecDepth 100000 in
theorem plan_ok146 : bodyOk plans 146 Tryz.f146 = true := by kernel_rfl
set_option maxRecDepth 100000 in
theorem plan_ok156 : bodyOk plans 156 Tryz.f156 = true := by kernel_rfl
set_option maxRecDepth 100000 in
theorem plan_ok160 : bodyOk plans 160 Tryz.f160 = true := by kernel_rfl
set_option maxRecDepth 100000 in
theorem plan_ok161 : bodyOk plans 161 Tryz.f161 = true := by kernel_rfl
set_option maxRecDepth 100000 in
theorem plan_ok163 : bodyOk plans 163 Tryz.f163 = true := by kernel_rfl
set_option maxRecDepth 100000 in
theorem plan_ok165 : bodyOk plans 165 Tryz.f165 = true := by kernel_rfl
set_option maxRecDepth 100000 in
theorem plan_ok167 : bodyOk plans 167 Tryz.f167 = true := by kernel_rfl
set_option maxRecDepth 100000 in
theorem plan_ok173 : bodyOk plans 173 Tryz.f173 = true := by kernel_rfl
set_option maxRecDepth 100000 in
theorem plan_ok174 : bodyOk plans 174 Tryz.f174 = true := by kernel_rfl
set_option maxRecDepth 100000 in
theorem plan_ok179 : bodyOk plans 179 Tryz.f179 = true := by kernel_rfl
set_option maxRecDepth 100000 in
theorem plan_ok185 : bodyOk plans 185 Tryz.f185 = true := by kernel_rfl
set_option maxRecDepth 100000 in
theorem plan_ok191 : bodyOk plans 191 Tryz.f191 = true := by kernel_rfl
set_option maxRecDepth 100000 in
theorem plan_ok196 : bodyOk plans 196 Tryz.f196 = true := by kernel_rfl
set_option maxRecDepth 100000 in
theorem plan_ok197 : bodyOk plans 197 Tryz.f197 = true := by kernel_rfl
set_option maxRecDepth 100000 in
theorem plan_ok198 : bodyOk plans 198 Tryz.f198 = true := by kernel_rfl
set_option maxRecDepth 100000 in
theorem plan_ok199 : bodyOk plans 199 Tryz.f199 = true := by kernel_rfl
set_option maxRecDepth 100000 in
theorem plan_ok200 : bodyOk plans 200 Tryz.f200 = true := by kernel_rfl
set_option maxRecDepth 100000 in
theorem plan_ok203 : bodyOk plans 203 Tryz.f203 = true := by kernel_rfl
set_option maxRecDepth 100000 in
theorem plan_ok204 : bodyOk plans 204 Tryz.f204 = true := by kernel_rfl
set_option maxRecDepth 100000 in
theorem plan_ok210 : bodyOk plans 210 Tryz.f210 = true := by kernel_rfl
set_option maxRecDepth 100000 in
theorem plan_ok212 : bodyOk plans 212 Tryz.f212 = true := by kernel_rfl
set_option maxRecDepth 100000 in
theorem plan_ok213 : bodyOk plans 213 Tryz.f213 = true := by kernel_rfl
set_option maxRecDepth 100000 in
theorem plan_ok217 : bodyOk plans 217 Tryz.f217 = true := by kernel_rfl
set_option maxRecDepth 100000 in
theorem plan_ok226 : bodyOk plans 226 Tryz.f226 = true := by kernel_rfl
set_option maxRecDepth 100000 in
theorem plan_ok228 : bodyOk plans 228 Tryz.f228 = true := by kernel_rfl
set_option maxRecDepth 100000 in
theorem plan_ok229 : bodyOk plans 229 Tryz.f229 = true := by kernel_rfl
set_option maxRecDepth 100000 in
theorem plan_ok239 : bodyOk plans 239 Tryz.f239 = true := by kernel_rfl
set_option maxRecDepth 100000 in
theorem plan_ok242 : bodyOk plans 242 Tryz.f242 = true := by kernel_rfl
set_option maxRecDepth 100000 in
theorem plan_ok243 : bodyOk plans 243 Tryz.f243 = true := by kernel_rfl
set_option maxRecDepth 100000 in
theorem plan_ok246 : bodyOk plans 246 Tryz.f246 = true := by kernel_rfl
set_option maxRecDepth 100000 in
theorem plan_ok248 : bodyOk plans 248 Tryz.f248 = true := by kernel_rfl
set_option maxRecDepth 100000 in
theorem plan_ok251 : bodyOk plans 251 Tryz.f251 = true := by kernel_rfl
set_option maxRecDepth 100000 in
theorem plan_ok253 : bodyOk plans 253 Tryz.f253 = true := by kernel_rfl
set_option maxRecDepth 100000 in
theorem plan_ok254 : bodyOk plans 254 Tryz.f254 = true := by kernel_rfl
set_option maxRecDepth 100000 in
theorem plan_ok256 : bodyOk plans 256 Tryz.f256 = true := by kernel_rfl
set_option maxRecDepth 100000 in
theorem plan_ok257 : bodyOk plans 257 Tryz.f257 = true := by kernel_rfl
set_option maxRecDepth 100000 in
theorem plan_ok265 : bodyOk plans 265 Tryz.f265 = true := by kernel_rfl
set_option maxRecDepth 100000 in
theorem plan_ok266 : bodyOk plans 266 Tryz.f266 = true := by kernel_rfl
set_option maxRecDepth 100000 in
theorem plan_ok267 : bodyOk plans 267 Tryz.f267 = true := by kernel_rfl
set_option maxRecDepth 100000 in
theorem plan_ok268 : bodyOk plans 268 Tryz.f268 = true := by kernel_rfl
set_option maxRecDepth 100000 in
theorem plan_ok269 : bodyOk plans 269 Tryz.f269 = true := by kernel_rfl
set_option maxRecDepth 100000 in
theorem plan_ok270 : bodyOk plans 270 Tryz.f270 = true := by kernel_rfl
set_option maxRecDepth 100000 in
theorem plan_ok271 : bodyOk plans 271 Tryz.f271 = true := by kernel_rfl
set_option maxRecDepth 100000 in
theorem plan_ok276 : bodyOk plans 276 Tryz.f276 = true := by kernel_rfl
set_option maxRecDepth 100000 in
theorem plan_ok277 : bodyOk plans 277 Tryz.f277 = true := by kernel_rfl
set_option maxRecDepth 100000 in
theorem plan_ok278 : bodyOk plans 278 Tryz.f278 = true := by kernel_rfl
set_option maxRecDepth 100000 in
theorem plan_ok282 : bodyOk plans 282 Tryz.f282 = true := by kernel_rfl
set_option maxRecDepth 100000 in
theorem plan_ok294 : bodyOk plans 294 Tryz.f294 = true := by kernel_rfl
set_option maxRecDepth 100000 in
theorem plan_ok295 : bodyOk plans 295 Tryz.f295 = true := by kernel_rfl
set_option maxRecDepth 100000 in
theorem plan_ok297 : bodyOk plans 297 Tryz.f297 = true := by kernel_rfl
set_option maxRecDepth 100000 in
theorem plan_ok298 : bodyOk plans 298 Tryz.f298 = true := by kernel_rfl
set_option maxRecDepth 100000 in
theorem plan_ok299 : bodyOk plans 299 Tryz.f299 = true := by kernel_rfl
set_option maxRecDepth 100000 in
theorem plan_ok302 : bodyOk plans 302 Tryz.f302 = true := by kernel_rfl
set_option maxRecDepth 100000 in
theorem plan_ok310 : bodyOk plans 310 Tryz.f310 = true := by kernel_rfl
set_option maxRecDepth 100000 in
theorem plan_ok311 : bodyOk plans 311 Tryz.f311 = true := by kernel_rfl
set_option maxRecDepth 100000 in
theorem plan_ok321 : bodyOk plans 321 Tryz.f321 = true := by kernel_rfl
set_option maxRecDepth 100000 in
theorem plan_ok328 : bodyOk plans 328 Tryz.f328 = true := by kernel_rfl
set_option maxRecDepth 100000 in
theorem plan_ok332 : bodyOk plans 332 Tryz.f332 = true := by kernel_rfl
set_option maxRecDepth 100000 in
theorem plan_ok336 : bodyOk plans 336 Tryz.f336 = true := by kernel_rfl
set_option maxRecDepth 100000 in
theorem plan_ok339 : bodyOk plans 339 Tryz.f339 = true := by kernel_rfl
set_option maxRecDepth 100000 in
theorem plan_ok354 : bodyOk plans 354 Tryz.f354 = true := by kernel_rfl
set_option maxRecDepth 100000 in
theorem plan_ok355 : bodyOk plans 355 Tryz.f355 = true := by kernel_rfl
set_option maxRecDepth 100000 in
theorem plan_ok357 : bodyOk plans 357 Tryz.f357 = true := by kernel_rfl
set_option maxRecDepth 100000 in
theorem plan_ok358 : bodyOk plans 358 Tryz.f358 = true := by kernel_rfl
set_option maxRecDepth 100000 in
theorem plan_ok359 : bodyOk plans 359 Tryz.f359 = true := by kernel_rfl
set_option maxRecDepth 100000 in
theorem plan_ok367 : bodyOk plans 367 Tryz.f367 = true := by kernel_rfl
set_option maxRecDepth 100000 in
theorem plan_ok380 : bodyOk plans 380 Tryz.f380 = true := by kernel_rfl
set_option maxRecDepth 100000 in
theorem plan_ok388 : bodyOk plans 388 Tryz.f388 = true := by kernel_rfl
set_option maxRecDepth 100000 in
theorem plan_ok410 : bodyOk plans 410 Tryz.f410 = true := by kernel_rfl
set_option maxRecDepth 100000 in
theorem plan_ok416 : bodyOk plans 416 Tryz.f416 = true := by kernel_rfl
set_option maxRecDepth 100000 in
theorem plan_ok417 : bodyOk plans 417 Tryz.f417 = true := by kernel_rfl
set_option maxRecDepth 100000 in
theorem plan_ok482 : bodyOk plans 482 Tryz.f482 = true := by kernel_rfl
set_option maxRecDepth 100000 in
theorem plan_ok484 : bodyOk plans 484 Tryz.f484 = true := by kernel_rfl
set_option maxRecDepth 100000 in
theorem plan_ok489 : bodyOk plans 489 Tryz.f489 = true := by kernel_rfl
set_option maxRecDepth 100000 in
theorem plan_ok490 : bodyOk plans 490 Tryz.f490 = true := by kernel_rfl
set_option maxRecDepth 100000 in
theorem plan_ok491 : bodyOk plans 491 Tryz.f491 = true := by kernel_rfl
set_option maxRecDepth 100000 in
theorem plan_ok495 : bodyOk plans 495 Tryz.f495 = true := by kernel_rfl
set_option maxRecDepth 100000 in
theorem plan_ok496 : bodyOk plans 496 Tryz.f496 = true := by kernel_rfl
def planFs : List Nat := [20, 22, 24, 27, 28, 39, 41, 42, 50, 60, 64, 65, 68, 69, 70, 71, 74, 75, 76, 77, 81, 85, 87, 90, 92, 93, 96, 98, 99, 100, 101, 102, 117, 120, 124, 127, 137, 138, 144, 146, 156, 160, 161, 163, 165, 167, 173, 174, 179, 185, 191, 196, 197, 198, 199, 200, 203, 204, 210, 212, 213, 217, 226, 228, 229, 239, 242, 243, 246, 248, 251, 253, 254, 256, 257, 265, 266, 267, 268, 269, 270, 271, 276, 277, 278, 282, 294, 295, 297, 298, 299, 302, 310, 311, 321, 328, 332, 336, 339, 354, 355, 357, 358, 359, 367, 380, 388, 410, 416, 417, 482, 484, 489, 490, 491, 495, 496]
set_option maxRecDepth 100000 in
theorem plans_rest : (Tryz.prog.funcs.toList.zipIdx.all fun x => planFs.contains x.2 || bodyOk plans x.2 x.1) = true := by kernel_rfl
theorem plans_ok : PlansOk Tryz.prog plans := by
  have key : ∀ f fn, Tryz.prog.funcs[f]? = some fn → bodyOk plans f fn = true := by
    intro f fn hf
    have h := List.all_eq_true.1 plans_rest (fn, f) (by rw [List.mem_zipIdx_iff_getElem?]; simpa using hf)
    simp only [Bool.or_eq_true] at h
    rcases h with h | h
    · have h := List.contains_iff_mem.1 h
      simp only [planFs, List.mem_cons, List.not_mem_nil, or_false] at h
      rcases h with rfl | rfl | rfl | rfl | rfl | rfl | rfl | rfl | rfl | rfl | rfl | rfl | rfl | rfl | rfl | rfl | rfl | rfl | rfl | rfl | rfl | rfl | rfl | rfl | rfl | rfl | rfl | rfl | rfl | rfl | rfl | rfl | rfl | rfl | rfl | rfl | rfl | rfl | rfl | rfl | rfl | rfl | rfl | rfl | rfl | rfl | rfl | rfl | rfl | rfl | rfl | rfl | rfl | rfl | rfl | rfl | rfl | rfl | rfl | rfl | rfl | rfl | rfl | rfl | rfl | rfl | rfl | rfl | rfl | rfl | rfl | rfl | rfl | rfl | rfl | rfl | rfl | rfl | rfl | rfl | rfl | rfl | rfl | rfl | rfl | rfl | rfl | rfl | rfl | rfl | rfl | rfl | rfl | rfl | rfl | rfl | rfl | rfl | rfl | rfl | rfl | rfl | rfl | rfl | rfl | rfl | rfl | rfl | rfl | rfl | rfl | rfl | rfl | rfl | rfl | rfl | rfl
      · rw [Tryz.func20] at hf; cases hf; exact plan_ok20
      · rw [Tryz.func22] at hf; cases hf; exact plan_ok22
      · rw [Tryz.func24] at hf; cases hf; exact plan_ok24
      · rw [Tryz.func27] at hf; cases hf; exact plan_ok27
      · rw [Tryz.func28] at hf; cases hf; exact plan_ok28
      · rw [Tryz.func39] at hf; cases hf; exact plan_ok39
      · rw [Tryz.func41] at hf; cases hf; exact plan_ok41
      · rw [Tryz.func42] at hf; cases hf; exact plan_ok42
      · rw [Tryz.func50] at hf; cases hf; exact plan_ok50
      · rw [Tryz.func60] at hf; cases hf; exact plan_ok60
      · rw [Tryz.func64] at hf; cases hf; exact plan_ok64
      · rw [Tryz.func65] at hf; cases hf; exact plan_ok65
      · rw [Tryz.func68] at hf; cases hf; exact plan_ok68
      · rw [Tryz.func69] at hf; cases hf; exact plan_ok69
      · rw [Tryz.func70] at hf; cases hf; exact plan_ok70
      · rw [Tryz.func71] at hf; cases hf; exact plan_ok71
      · rw [Tryz.func74] at hf; cases hf; exact plan_ok74
      · rw [Tryz.func75] at hf; cases hf; exact plan_ok75
      · rw [Tryz.func76] at hf; cases hf; exact plan_ok76
      · rw [Tryz.func77] at hf; cases hf; exact plan_ok77
      · rw [Tryz.func81] at hf; cases hf; exact plan_ok81
      · rw [Tryz.func85] at hf; cases hf; exact plan_ok85
      · rw [Tryz.func87] at hf; cases hf; exact plan_ok87
      · rw [Tryz.func90] at hf; cases hf; exact plan_ok90
      · rw [Tryz.func92] at hf; cases hf; exact plan_ok92
      · rw [Tryz.func93] at hf; cases hf; exact plan_ok93
      · rw [Tryz.func96] at hf; cases hf; exact plan_ok96
      · rw [Tryz.func98] at hf; cases hf; exact plan_ok98
      · rw [Tryz.func99] at hf; cases hf; exact plan_ok99
      · rw [Tryz.func100] at hf; cases hf; exact plan_ok100
      · rw [Tryz.func101] at hf; cases hf; exact plan_ok101
      · rw [Tryz.func102] at hf; cases hf; exact plan_ok102
      · rw [Tryz.func117] at hf; cases hf; exact plan_ok117
      · rw [Tryz.func120] at hf; cases hf; exact plan_ok120
      · rw [Tryz.func124] at hf; cases hf; exact plan_ok124
      · rw [Tryz.func127] at hf; cases hf; exact plan_ok127
      · rw [Tryz.func137] at hf; cases hf; exact plan_ok137
      · rw [Tryz.func138] at hf; cases hf; exact plan_ok138
      · rw [Tryz.func144] at hf; cases hf; exact plan_ok144
      · rw [Tryz.func146] at hf; cases hf; exact plan_ok146
      · rw [Tryz.func156] at hf; cases hf; exact plan_ok156
      · rw [Tryz.func160] at hf; cases hf; exact plan_ok160
      · rw [Tryz.func161] at hf; cases hf; exact plan_ok161
      · rw [Tryz.func163] at hf; cases hf; exact plan_ok163
      · rw [Tryz.func165] at hf; cases hf; exact plan_ok165
      · rw [Tryz.func167] at hf; cases hf; exact plan_ok167
      · rw [Tryz.func173] at hf; cases hf; exact plan_ok173
      · rw [Tryz.func174] at hf; cases hf; exact plan_ok174
      · rw [Tryz.func179] at hf; cases hf; exact plan_ok179
      · rw [Tryz.func185] at hf; cases hf; exact plan_ok185
      · rw [Tryz.func191] at hf; cases hf; exact plan_ok191
      · rw [Tryz.func196] at hf; cases hf; exact plan_ok196
      · rw [Tryz.func197] at hf; cases hf; exact plan_ok197
      · rw [Tryz.func198] at hf; cases hf; exact plan_ok198
      · rw [Tryz.func199] at hf; cases hf; exact plan_ok199
      · rw [Tryz.func200] at hf; cases hf; exact plan_ok200
      · rw [Tryz.func203] at hf; cases hf; exact plan_ok203
      · rw [Tryz.func204] at hf; cases hf; exact plan_ok204
      · rw [Tryz.func210] at hf; cases hf; exact plan_ok210
      · rw [Tryz.func212] at hf; cases hf; exact plan_ok212
      · rw [Tryz.func213] at hf; cases hf; exact plan_ok213
      · rw [Tryz.func217] at hf; cases hf; exact plan_ok217
      · rw [Tryz.func226] at hf; cases hf; exact plan_ok226
      · rw [Tryz.func228] at hf; cases hf; exact plan_ok228
      · rw [Tryz.func229] at hf; cases hf; exact plan_ok229
      · rw [Tryz.func239] at hf; cases hf; exact plan_ok239
      · rw [Tryz.func242] at hf; cases hf; exact plan_ok242
      · rw [Tryz.func243] at hf; cases hf; exact plan_ok243
      · rw [Tryz.func246] at hf; cases hf; exact plan_ok246
      · rw [Tryz.func248] at hf; cases hf; exact plan_ok248
      · rw [Tryz.func251] at hf; cases hf; exact plan_ok251
      · rw [Tryz.func253] at hf; cases hf; exact plan_ok253
      · rw [Tryz.func254] at hf; cases hf; exact plan_ok254
      · rw [Tryz.func256] at hf; cases hf; exact plan_ok256
      · rw [Tryz.func257] at hf; cases hf; exact plan_ok257
      · rw [Tryz.func265] at hf; cases hf; exact plan_ok265
      · rw [Tryz.func266] at hf; cases hf; exact plan_ok266
      · rw [Tryz.func267] at hf; cases hf; exact plan_ok267
      · rw [Tryz.func268] at hf; cases hf; exact plan_ok268
      · rw [Tryz.func269] at hf; cases hf; exact plan_ok269
      · rw [Tryz.func270] at hf; cases hf; exact plan_ok270
      · rw [Tryz.func271] at hf; cases hf; exact plan_ok271
      · rw [Tryz.func276] at hf; cases hf; exact plan_ok276
      · rw [Tryz.func277] at hf; cases hf; exact plan_ok277
      · rw [Tryz.func278] at hf; cases hf; exact plan_ok278
      · rw [Tryz.func282] at hf; cases hf; exact plan_ok282
      · rw [Tryz.func294] at hf; cases hf; exact plan_ok294
      · rw [Tryz.func295] at hf; cases hf; exact plan_ok295
      · rw [Tryz.func297] at hf; cases hf; exact plan_ok297
      · rw [Tryz.func298] at hf; cases hf; exact plan_ok298
      · rw [Tryz.func299] at hf; cases hf; exact plan_ok299
      · rw [Tryz.func302] at hf; cases hf; exact plan_ok302
      · rw [Tryz.func310] at hf; cases hf; exact plan_ok310
      · rw [Tryz.func311] at hf; cases hf; exact plan_ok311
      · rw [Tryz.func321] at hf; cases hf; exact plan_ok321
      · rw [Tryz.func328] at hf; cases hf; exact plan_ok328
      · rw [Tryz.func332] at hf; cases hf; exact plan_ok332
      · rw [Tryz.func336] at hf; cases hf; exact plan_ok336
      · rw [Tryz.func339] at hf; cases hf; exact plan_ok339
      · rw [Tryz.func354] at hf; cases hf; exact plan_ok354
      · rw [Tryz.func355] at hf; cases hf; exact plan_ok355
      · rw [Tryz.func357] at hf; cases hf; exact plan_ok357
      · rw [Tryz.func358] at hf; cases hf; exact plan_ok358
      · rw [Tryz.func359] at hf; cases hf; exact plan_ok359
      · rw [Tryz.func367] at hf; cases hf; exact plan_ok367
      · rw [Tryz.func380] at hf; cases hf; exact plan_ok380
      · rw [Tryz.func388] at hf; cases hf; exact plan_ok388
      · rw [Tryz.func410] at hf; cases hf; exact plan_ok410
      · rw [Tryz.func416] at hf; cases hf; exact plan_ok416
      · rw [Tryz.func417] at hf; cases hf; exact plan_ok417
      · rw [Tryz.func482] at hf; cases hf; exact plan_ok482
      · rw [Tryz.func484] at hf; cases hf; exact plan_ok484
      · rw [Tryz.func489] at hf; cases hf; exact plan_ok489
      · rw [Tryz.func490] at hf; cases hf; exact plan_ok490
      · rw [Tryz.func491] at hf; cases hf; exact plan_ok491
      · rw [Tryz.func495] at hf; cases hf; exact plan_ok495
      · rw [Tryz.func496] at hf; cases hf; exact plan_ok496
    · exact h
  intro f fn c hf hc
  simpa [bodyOk, hc] using key f fn hf

end Go.Proofs.YtfiefdkgneilkaaGreat

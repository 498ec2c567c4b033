/-
  The plans serve every region that draws its order. Printed by plans.py.
-/
import Derived.Test.YtmifojdpdbjodaaGreatCe
import Derived.Test.YtmifojdpdbjodaaGreatProg
import Derived.Test.YtmifojdpdbjodaaGreatPls
set_option linter.unusedVariables false
set_option linter.unusedSimpArgs false
namespace Go.Proofs.YtmifojdpdbjodaaGreat
open Go

theorem follows_mixed : Tryz.prog.follows .mixedOrders = true := by kernel_rfl
def bodyOk (pl : Plans) (f : FuncId) (fn : Func) : Bool := match fn.body with
  | some c => codeOk pl f c
  | none => true
set_option maxRecDepth 100000 in
theorem plan_ok3 : bodyOk plans 3 Tryz.f3 = true := by kernel_rfl
set_option maxRecDepth 100000 in
theorem plan_ok7 : bodyOk plans 7 Tryz.f7 = true := by kernel_rfl
set_option maxRecDepth 100000 in
theorem plan_ok8 : bodyOk plans 8 Tryz.f8 = true := by kernel_rfl
set_option maxRecDepth 100000 in
theorem plan_ok9 : bodyOk plans 9 Tryz.f9 = true := by kernel_rfl
set_option maxRecDepth 100000 in
theorem plan_ok10 : bodyOk plans 10 Tryz.f10 = true := by kernel_rfl
set_option maxRecDepth 100000 in
theorem plan_ok14 : bodyOk plans 14 Tryz.f14 = true := by kernel_rfl
set_option maxRecDepth 100000 in
theorem plan_ok16 : bodyOk plans 16 Tryz.f16 = true := by kernel_rfl
set_option maxRecDepth 100000 in
theorem plan_ok19 : bodyOk plans 19 Tryz.f19 = true := by kernel_rfl
set_option maxRecDepth 100000 in
theorem plan_ok20 : bodyOk plans 20 Tryz.f20 = true := by kernel_rfl
set_option maxRecDepth 100000 in
theorem plan_ok21 : bodyOk plans 21 Tryz.f21 = true := by kernel_rfl
set_option maxRecDepth 100000 in
theorem plan_ok23 : bodyOk plans 23 Tryz.f23 = true := by kernel_rfl
set_option maxRecDepth 100000 in
theorem plan_ok24 : bodyOk plans 24 Tryz.f24 = true := by kernel_rfl
set_option maxRecDepth 100000 in
theorem plan_ok25 : bodyOk plans 25 Tryz.f25 = true := by kernel_rfl
set_option maxRecDepth 100000 in
theorem plan_ok28 : bodyOk plans 28 Tryz.f28 = true := by kernel_rfl
set_option maxRecDepth 100000 in
theorem plan_ok29 : bodyOk plans 29 Tryz.f29 = true := by kernel_rfl
set_option maxRecDepth 100000 in
theorem plan_ok32 : bodyOk plans 32 Tryz.f32 = true := by kernel_rfl
set_option maxRecDepth 100000 in
theorem plan_ok33 : bodyOk plans 33 Tryz.f33 = true := by kernel_rfl
set_option maxRecDepth 100000 in
theorem plan_ok34 : bodyOk plans 34 Tryz.f34 = true := by kernel_rfl
set_option maxRecDepth 100000 in
theorem plan_ok35 : bodyOk plans 35 Tryz.f35 = true := by kernel_rfl
set_option maxRecDepth 100000 in
theorem plan_ok36 : bodyOk plans 36 Tryz.f36 = true := by kernel_rfl
set_option maxRecDepth 100000 in
theorem plan_ok38 : bodyOk plans 38 Tryz.f38 = true := by kernel_rfl
set_option maxRecDepth 100000 in
theorem plan_ok40 : bodyOk plans 40 Tryz.f40 = true := by kernel_rfl
set_option maxRecDepth 100000 in
theorem plan_ok41 : bodyOk plans 41 Tryz.f41 = true := by kernel_rfl
set_option maxRecDepth 100000 in
theorem plan_ok47 : bodyOk plans 47 Tryz.f47 = true := by kernel_rfl
set_option maxRecDepth 100000 in
theorem plan_ok49 : bodyOk plans 49 Tryz.f49 = true := by kernel_rfl
set_option maxRecDepth 100000 in
theorem plan_ok52 : bodyOk plans 52 Tryz.f52 = true := by kernel_rfl
set_option maxRecDepth 100000 in
theorem plan_ok55 : bodyOk plans 55 Tryz.f55 = true := by kernel_rfl
set_option maxRecDepth 100000 in
theorem plan_ok56 : bodyOk plans 56 Tryz.f56 = true := by kernel_rfl
set_option maxRecDepth 100000 in
theorem plan_ok58 : bodyOk plans 58 Tryz.f58 = true := by kernel_rfl
set_option maxRecDepth 100000 in
theorem plan_ok60 : bodyOk plans 60 Tryz.f60 = true := by kernel_rfl
set_option maxRecDepth 100000 in
theorem plan_ok61 : bodyOk plans 61 Tryz.f61 = true := by kernel_rfl
set_option maxRecDepth 100000 in
theorem plan_ok63 : bodyOk plans 63 Tryz.f63 = true := by kernel_rfl
set_option maxRecDepth 100000 in
theorem plan_ok81 : bodyOk plans 81 Tryz.f81 = true := by kernel_rfl
set_option maxRecDepth 100000 in
theorem plan_ok85 : bodyOk plans 85 Tryz.f85 = true := by kernel_rfl
set_option maxRecDepth 100000 in
theorem plan_ok88 : bodyOk plans 88 Tryz.f88 = true := by kernel_rfl
set_option maxRecDepth 100000 in
theorem plan_ok92 : bodyOk plans 92 Tryz.f92 = true := by kernel_rfl
set_option maxRecDepth 100000 in
theorem plan_ok94 : bodyOk plans 94 Tryz.f94 = true := by kernel_rfl
set_option maxRecDepth 100000 in
theorem plan_ok95 : bodyOk plans 95 Tryz.f95 = true := by kernel_rfl
set_option maxRecDepth 100000 in
theorem plan_ok97 : bodyOk plans 97 Tryz.f97 = true := by kernel_rfl
set_option maxRecDepth 100000 in
theorem plan_ok98 : bodyOk plans 98 Tryz.f98 = true := by kernel_rfl
set_option maxRecDepth 100000 in
theorem plan_ok99 : bodyOk plans 99 Tryz.f99 = true := by kernel_rfl
set_option maxRecDepth 100000 in
theorem plan_ok100 : bodyOk plans 100 Tryz.f100 = true := by kernel_rfl
set_option maxRecDepth 100000 in
theorem plan_ok101 : bodyOk plans 101 Tryz.f101 = true := by kernel_rfl
set_option maxRecDepth 100000 in
theorem plan_ok102 : bodyOk plans 102 Tryz.f102 = true := by kernel_rfl
set_option maxRecDepth 100000 in
theorem plan_ok105 : bodyOk plans 105 Tryz.f105 = true := by kernel_rfl
set_option maxRecDepth 100000 in
theorem plan_ok108 : bodyOk plans 108 Tryz.f108 = true := by kernel_rfl
set_option maxRecDepth 100000 in
theorem plan_ok109 : bodyOk plans 109 Tryz.f109 = true := by kernel_rfl
set_option maxRecDepth 100000 in
theorem plan_ok110 : bodyOk plans 110 Tryz.f110 = true := by kernel_rfl
set_option maxRecDepth 100000 in
theorem plan_ok111 : bodyOk plans 111 Tryz.f111 = true := by kernel_rfl
set_option maxRecDepth 100000 in
theorem plan_ok112 : bodyOk plans 112 Tryz.f112 = true := by kernel_rfl
set_option maxRecDepth 100000 in
theorem plan_ok114 : bodyOk plans 114 Tryz.f114 = true := by kernel_rfl
set_option maxRecDepth 100000 in
theorem plan_ok115 : bodyOk plans 115 Tryz.f115 = true := by kernel_rfl
set_option maxRecDepth 100000 in
theorem plan_ok116 : bodyOk plans 116 Tryz.f116 = true := by kernel_rfl
set_option maxRecDepth 100000 in
theorem plan_ok120 : bodyOk plans 120 Tryz.f120 = true := by kernel_rfl
set_option maxRecDepth 100000 in
theorem plan_ok123 : bodyOk plans 123 Tryz.f123 = true := by kernel_rfl
set_option maxRecDepth 100000 in
theorem plan_ok124 : bodyOk plans 124 Tryz.f124 = true := by kernel_rfl
set_option maxRecDepth 100000 in
theorem plan_ok129 : bodyOk plans 129 Tryz.f129 = true := by kernel_rfl
set_option maxRecDepth 100000 in
theorem plan_ok137 : bodyOk plans 137 Tryz.f137 = true := by kernel_rfl
set_option maxRecDepth 100000 in
theorem plan_ok139 : bodyOk plans 139 Tryz.f139 = true := by kernel_rfl
set_option maxRecDepth 100000 in
theorem plan_ok140 : bodyOk plans 140 Tryz.f140 = true := by kernel_rfl
set_option maxRecDepth 100000 in
theorem plan_ok141 : bodyOk plans 141 Tryz.f141 = true := by kernel_rfl
set_option maxRecDepth 100000 in
theorem plan_ok143 : bodyOk plans 143 Tryz.f143 = true := by kernel_rfl
set_option maxRecDepth 100000 in
theorem plan_ok144 : bodyOk plans 144 Tryz.f144 = true := by kernel_rfl
set_option maxRecDepth 100000 in
theorem plan_ok157 : bodyOk plans 157 Tryz.f157 = true := by kernel_rfl
set_option maxRecDepth 100000 in
theorem plan_ok158 : bodyOk plans 158 Tryz.f158 = true := by kernel_rfl
set_option maxRecDepth 100000 in
theorem plan_ok159 : bodyOk plans 159 Tryz.f159 = true := by kernel_rfl
set_option maxRecDepth 100000 in
theorem plan_ok160 : bodyOk plans 160 Tryz.f160 = true := by kernel_rfl
set_option maxRecDepth 100000 in
theorem plan_ok162 : bodyOk plans 162 Tryz.f162 = true := by kernel_rfl
set_option maxRecDepth 100000 in
theorem plan_ok177 : bodyOk plans 177 Tryz.f177 = true := by kernel_rfl
set_option maxRecDepth 100000 in
theorem plan_ok178 : bodyOk plans 178 Tryz.f178 = true := by kernel_rfl
set_option maxRecDepth 100000 in
theorem plan_ok182 : bodyOk plans 182 Tryz.f182 = true := by kernel_rfl
set_option maxRecDepth 100000 in
theorem plan_ok183 : bodyOk plans 183 Tryz.f183 = true := by kernel_rfl
set_option maxRecDepth 100000 in
theorem plan_ok191 : bodyOk plans 191 Tryz.f191 = true := by kernel_rfl
set_option maxRecDepth 100000 in
theorem plan_ok192 : bodyOk plans 192 Tryz.f192 = true := by kernel_rfl
set_option maxRecDepth 100000 in
theorem plan_ok195 : bodyOk plans 195 Tryz.f195 = true := by kernel_rfl
set_option maxRecDepth 100000 in
theorem plan_ok196 : bodyOk plans 196 Tryz.f196 = true := by kernel_rfl
set_option maxRecDepth 100000 in
theorem plan_ok204 : bodyOk plans 204 Tryz.f204 = true := by kernel_rfl
set_option maxRecDepth 100000 in
theorem plan_ok207 : bodyOk plans 207 Tryz.f207 = true := by kernel_rfl
set_option maxRecDepth 100000 in
theorem plan_ok210 : bodyOk plans 210 Tryz.f210 = true := by kernel_rfl
set_option maxRecDepth 100000 in
theorem plan_ok213 : bodyOk plans 213 Tryz.f213 = true := by kernel_rfl
set_option maxRecDepth 100000 in
theorem plan_ok215 : bodyOk plans 215 Tryz.f215 = true := by kernel_rfl
set_option maxRecDepth 100000 in
theorem plan_ok219 : bodyOk plans 219 Tryz.f219 = true := by kernel_rfl
set_option maxRecDepth 100000 in
theorem plan_ok220 : bodyOk plans 220 Tryz.f220 = true := by kernel_rfl
set_option maxRecDepth 100000 in
theorem plan_ok222 : bodyOk plans 222 Tryz.f222 = true := by kernel_rfl
set_option maxRecDepth 100000 in
theorem plan_ok223 : bodyOk plans 223 Tryz.f223 = true := by kernel_rfl
set_option maxRecDepth 100000 in
theorem plan_ok225 : bodyOk plans 225 Tryz.f225 = true := by kernel_rfl
set_option maxRecDepth 100000 in
theorem plan_ok227 : bodyOk plans 227 Tryz.f227 = true := by kernel_rfl
set_option maxRecDepth 100000 in
theorem plan_ok233 : bodyOk plans 233 Tryz.f233 = true := by kernel_rfl
set_option maxRecDepth 100000 in
theorem plan_ok241 : bodyOk plans 241 Tryz.f241 = true := by kernel_rfl
set_option maxRecDepth 100000 in
theorem plan_ok242 : bodyOk plans 242 Tryz.f242 = true := by kernel_rfl
set_option maxRecDepth 100000 in
theorem plan_ok243 : bodyOk plans 243 Tryz.f243 = true := by kernel_rfl
set_option maxRecDepth 100000 in
theorem plan_ok244 : bodyOk plans 244 Tryz.f244 = true := by kernel_rfl
set_option maxRecDepth 100000 in
theorem plan_ok245 : bodyOk plans 245 Tryz.f245 = true := by kernel_rfl
set_option maxRecDepth 100000 in
theorem plan_ok246 : bodyOk plans 246 Tryz.f246 = true := by kernel_rfl
set_option maxRecDepth 100000 in
theorem plan_ok247 : bodyOk plans 247 Tryz.f247 = true := by kernel_rfl
set_option maxRecDepth 100000 in
theorem plan_ok255 : bodyOk plans 255 Tryz.f255 = true := by kernel_rfl
set_option maxRecDepth 100000 in
theorem plan_ok260 : bodyOk plans 260 Tryz.f260 = true := by kernel_rfl
set_option maxRecDepth 100000 in
theorem plan_ok262 : bodyOk plans 262 Tryz.f262 = true := by kernel_rfl
set_option maxRecDepth 100000 in
theorem plan_ok263 : bodyOk plans 263 Tryz.f263 = true := by kernel_rfl
set_option maxRecDepth 100000 in
theorem plan_ok264 : bodyOk plans 264 Tryz.f264 = true := by kernel_rfl
set_option maxRecDepth 100000 in
theorem plan_ok265 : bodyOk plans 265 Tryz.f265 = true := by kernel_rfl
set_option maxRecDepth 100000 in
theorem plan_ok267 : bodyOk plans 267 Tryz.f267 = true := by kernel_rfl
set_option maxRecDepth 100000 in
theorem plan_ok268 : bodyOk plans 268 Tryz.f268 = true := by kernel_rfl
set_option maxRecDepth 100000 in
theorem plan_ok270 : bodyOk plans 270 Tryz.f270 = true := by kernel_rfl
set_option maxRecDepth 100000 in
theorem plan_ok271 : bodyOk plans 271 Tryz.f271 = true := by kernel_rfl
set_option maxRecDepth 100000 in
theorem plan_ok281 : bodyOk plans 281 Tryz.f281 = true := by kernel_rfl
set_option maxRecDepth 100000 in
theorem plan_ok282 : bodyOk plans 282 Tryz.f282 = true := by kernel_rfl
set_option maxRecDepth 100000 in
theorem plan_ok283 : bodyOk plans 283 Tryz.f283 = true := by kernel_rfl
set_option maxRecDepth 100000 in
theorem plan_ok284 : bodyOk plans 284 Tryz.f284 = true := by kernel_rfl
set_option maxRecDepth 100000 in
theorem plan_ok288 : bodyOk plans 288 Tryz.f288 = true := by kernel_rfl
set_option maxRecDepth 100000 in
theorem plan_ok289 : bodyOk plans 289 Tryz.f289 = true := by kernel_rfl
set_option maxRecDepth 100000 in
theorem plan_ok291 : bodyOk plans 291 Tryz.f291 = true := by kernel_rfl
set_option maxRecDepth 100000 in
theorem plan_ok292 : bodyOk plans 292 Tryz.f292 = true := by kernel_rfl
set_option maxRecDepth 100000 in
theorem plan_ok297 : bodyOk plans 297 Tryz.f297 = true := by kernel_rfl
set_option maxRecDepth 100000 in
theorem plan_ok298 : bodyOk plans 298 Tryz.f298 = true := by kernel_rfl
set_option maxRecDepth 100000 in
theorem plan_ok299 : bodyOk plans 299 Tryz.f299 = true := by kernel_rfl
set_option maxRecDepth 100000 in
theorem plan_ok301 : bodyOk plans 301 Tryz.f301 = true := by kernel_rfl
set_option maxRecDepth 100000 in
theorem plan_ok302 : bodyOk plans 302 Tryz.f302 = true := by kernel_rfl
set_option maxRecDepth 100000 in
theorem plan_ok303 : bodyOk plans 303 Tryz.f303 = true := by kernel_rfl
set_option maxRecDepth 100000 in
theorem plan_ok304 : bodyOk plans 304 Tryz.f304 = true := by kernel_rfl
set_option maxRecDepth 100000 in
theorem plan_ok305 : bodyOk plans 305 Tryz.f305 = true := by kernel_rfl
set_option maxRecDepth 100000 in
theorem plan_ok306 : bodyOk plans 306 Tryz.f306 = true := by kernel_rfl
set_option maxRecDepth 100000 in
theorem plan_ok311 : bodyOk plans 311 Tryz.f311 = true := by kernel_rfl
set_option maxRecDepth 100000 in
theorem plan_ok314 : bodyOk plans 314 Tryz.f314 = true := by kernel_rfl
set_option maxRecDepth 100000 in
theorem plan_ok315 : bodyOk plans 315 Tryz.f315 = true := by kernel_rfl
set_option maxRecDepth 100000 in
theorem plan_ok317 : bodyOk plans 317 Tryz.f317 = true := by kernel_rfl
set_option maxRecDepth 100000 in
theorem plan_ok318 : bodyOk plans 318 Tryz.f318 = true := by kernel_rfl
set_option maxRecDepth 100000 in
theorem plan_ok321 : bodyOk plans 321 Tryz.f321 = true := by kernel_rfl
set_option maxRecDepth 100000 in
theorem plan_ok323 : bodyOk plans 323 Tryz.f323 = true := by kernel_rfl
set_option maxRecDepth 100000 in
theorem plan_ok327 : bodyOk plans 327 Tryz.f327 = true := by kernel_rfl
set_option maxRecDepth 100000 in
theorem plan_ok332 : bodyOk plans 332 Tryz.f332 = true := by kernel_rfl
set_option maxRecDepth 100000 in
theorem plan_ok338 : bodyOk plans 338 Tryz.f338 = true := by kernel_rfl
set_option maxRecDepth 100000 in
theorem plan_ok344 : bodyOk plans 344 Tryz.f344 = true := by kernel_rfl
set_option maxRecDepth 100000 in
theorem plan_ok345 : bodyOk plans 345 Tryz.f345 = true := by kernel_rfl
set_option maxRecDepth 100000 in
theorem plan_ok346 : bodyOk plans 346 Tryz.f346 = true := by kernel_rfl
set_option maxRecDepth 100000 in
theorem plan_ok347 : bodyOk plans 347 Tryz.f347 = true := by kernel_rfl
set_option maxRecDepth 100000 in
theorem plan_ok348 : bodyOk plans 348 Tryz.f348 = true := by kernel_rfl
set_option maxRecDepth 100000 in
theorem plan_ok349 : bodyOk plans 349 Tryz.f349 = true := by kernel_rfl
set_option maxRecDepth 100000 in
theorem plan_ok350 : bodyOk plans 350 Tryz.f350 = true := by kernel_rfl
set_option maxRecDepth 100000 in
theorem plan_ok351 : bodyOk plans 351 Tryz.f351 = true := by kernel_rfl
set_option maxRecDepth 100000 in
theorem plan_ok352 : bodyOk plans 352 Tryz.f352 = true := by kernel_rfl
set_option maxRecDepth 100000 in
theorem plan_ok354 : bodyOk plans 354 Tryz.f354 = true := by kernel_rfl
set_option maxRecDepth 100000 in
theorem plan_ok355 : bodyOk plans 355 Tryz.f355 = true := by kernel_rfl
set_option maxRecDepth 100000 in
theorem plan_ok357 : bodyOk plans 357 Tryz.f357 = true := by kernel_rfl
set_option maxRecDepth 100000 in
theorem plan_ok358 : bodyOk plans 358 Tryz.f358 = true := by kernel_rfl
set_option maxRecDepth 100000 in
theorem plan_ok364 : bodyOk plans 364 Tryz.f364 = true := by kernel_rfl
set_option maxRecDepth 100000 in
theorem plan_ok365 : bodyOk plans 365 Tryz.f365 = true := by kernel_rfl
set_option maxRecDepth 100000 in
theorem plan_ok366 : bodyOk plans 366 Tryz.f366 = true := by kernel_rfl
set_option maxRecDepth 100000 in
theorem plan_ok367 : bodyOk plans 367 Tryz.f367 = true := by kernel_rfl
set_option maxRecDepth 100000 in
theorem plan_ok369 : bodyOk plans 369 Tryz.f369 = true := by kernel_rfl
set_option maxRecDepth 100000 in
theorem plan_ok370 : bodyOk plans 370 Tryz.f370 = true := by kernel_rfl
set_option maxRecDepth 100000 in
theorem plan_ok371 : bodyOk plans 371 Tryz.f371 = true := by kernel_rfl
set_option maxRecDepth 100000 in
theorem plan_ok372 : bodyOk plans 372 Tryz.f372 = true := by kernel_rfl
set_option maxRecDepth 100000 in
theorem plan_ok373 : bodyOk plans 373 Tryz.f373 = true := by kernel_rfl
set_option maxRecDepth 100000 in
theorem plan_ok378 : bodyOk plans 378 Tryz.f378 = true := by kernel_rfl
set_option maxRecDepth 100000 in
theorem plan_ok381 : bodyOk plans 381 Tryz.f381 = true := by kernel_rfl
set_option maxRecDepth 100000 in
theorem plan_ok382 : bodyOk plans 382 Tryz.f382 = true := by kernel_rfl
set_option maxRecDepth 100000 in
theorem plan_ok405 : bodyOk plans 405 Tryz.f405 = true := by kernel_rfl
set_option maxRecDepth 100000 in
theorem plan_ok407 : bodyOk plans 407 Tryz.f407 = true := by kernel_rfl
set_option maxRecDepth 100000 in
theorem plan_ok408 : bodyOk plans 408 Tryz.f408 = true := by kernel_rfl
set_option maxRecDepth 100000 in
theorem plan_ok412 : bodyOk plans 412 Tryz.f412 = true := by kernel_rfl
set_option maxRecDepth 100000 in
theorem plan_ok415 : bodyOk plans 415 Tryz.f415 = true := by kernel_rfl
set_option maxRecDepth 100000 in
theorem plan_ok416 : bodyOk plans 416 Tryz.f416 = true := by kernel_rfl
set_option maxRecDepth 100000 in
theorem plan_ok419 : bodyOk plans 419 Tryz.f419 = true := by kernel_rfl
set_option maxRecDepth 100000 in
theorem plan_ok421 : bodyOk plans 421 Tryz.f421 = true := by kernel_rfl
set_option maxRecDepth 100000 in
theorem plan_ok422 : bodyOk plans 422 Tryz.f422 = true := by kernel_rfl
set_option maxRecDepth 100000 in
theorem plan_ok426 : bodyOk plans 426 Tryz.f426 = true := by kernel_rfl
set_option maxRecDepth 100000 in
theorem plan_ok428 : bodyOk plans 428 Tryz.f428 = true := by kernel_rfl
set_option maxRecDepth 100000 in
theorem plan_ok429 : bodyOk plans 429 Tryz.f429 = true := by kernel_rfl
set_option maxRecDepth 100000 in
theorem plan_ok433 : bodyOk plans 433 Tryz.f433 = true := by kernel_rfl
set_option maxRecDepth 100000 in
theorem plan_ok435 : bodyOk plans 435 Tryz.f435 = true := by kernel_rfl
set_option maxRecDepth 100000 in
theorem plan_ok439 : bodyOk plans 439 Tryz.f439 = true := by kernel_rfl
set_option maxRecDepth 100000 in
theorem plan_ok440 : bodyOk plans 440 Tryz.f440 = true := by kernel_rfl
set_option maxRecDepth 100000 in
theorem plan_ok441 : bodyOk plans 441 Tryz.f441 = true := by kernel_rfl
set_option maxRecDepth 100000 in
theorem plan_ok442 : bodyOk plans 442 Tryz.f442 = true := by kernel_rfl
def planFs : List Nat := [3, 7, 8, 9, 10, 14, 16, 19, 20, 21, 23, 24, 25, 28, 29, 32, 33, 34, 35, 36, 38, 40, 41, 47, 49, 52, 55, 56, 58, 60, 61, 63, 81, 85, 88, 92, 94, 95, 97, 98, 99, 100, 101, 102, 105, 108, 109, 110, 111, 112, 114, 115, 116, 120, 123, 124, 129, 137, 139, 140, 141, 143, 144, 157, 158, 159, 160, 162, 177, 178, 182, 183, 191, 192, 195, 196, 204, 207, 210, 213, 215, 219, 220, 222, 223, 225, 227, 233, 241, 242, 243, 244, 245, 246, 247, 255, 260, 262, 263, 264, 265, 267, 268, 270, 271, 281, 282, 283, 284, 288, 289, 291, 292, 297, 298, 299, 301, 302, 303, 304, 305, 306, 311, 314, 315, 317, 318, 321, 323, 327, 332, 338, 344, 345, 346, 347, 348, 349, 350, 351, 352, 354, 355, 357, 358, 364, 365, 366, 367, 369, 370, 371, 372, 373, 378, 381, 382, 405, 407, 408, 412, 415, 416, 419, 421, 422, 426, 428, 429, 433, 435, 439, 440, 441, 442]
set_option maxRecDepth 100000 in
theorem plans_rest : (Tryz.prog.funcs.toList.zipIdx.all fun x => planFs.contains x.2 || bodyOk plans x.2 x.1) = true := by kernel_rfl
theorem plans_lot0 : ∀ f ∈ ([3, 7, 8, 9, 10, 14, 16, 19, 20, 21, 23, 24, 25, 28, 29, 32, 33, 34, 35, 36, 38, 40, 41, 47, 49, 52, 55, 56, 58, 60, 61, 63, 81, 85, 88, 92, 94, 95, 97, 98] : List Nat), ∀ fn, Tryz.prog.funcs[f]? = some fn → bodyOk plans f fn = true := by
  refine List.forall_mem_cons.2 ⟨fun fn hf => ?_, ?_⟩
  · rw [Tryz.func3] at hf; cases hf; exact plan_ok3
  refine List.forall_mem_cons.2 ⟨fun fn hf => ?_, ?_⟩
  · rw [Tryz.func7] at hf; cases hf; exact plan_ok7
  refine List.forall_mem_cons.2 ⟨fun fn hf => ?_, ?_⟩
  · rw [Tryz.func8] at hf; cases hf; exact plan_ok8
  refine List.forall_mem_cons.2 ⟨fun fn hf => ?_, ?_⟩
  · rw [Tryz.func9] at hf; cases hf; exact plan_ok9
  refine List.forall_mem_cons.2 ⟨fun fn hf => ?_, ?_⟩
  · rw [Tryz.func10] at hf; cases hf; exact plan_ok10
  refine List.forall_mem_cons.2 ⟨fun fn hf => ?_, ?_⟩
  · rw [Tryz.func14] at hf; cases hf; exact plan_ok14
  refine List.forall_mem_cons.2 ⟨fun fn hf => ?_, ?_⟩
  · rw [Tryz.func16] at hf; cases hf; exact plan_ok16
  refine List.forall_mem_cons.2 ⟨fun fn hf => ?_, ?_⟩
  · rw [Tryz.func19] at hf; cases hf; exact plan_ok19
  refine List.forall_mem_cons.2 ⟨fun fn hf => ?_, ?_⟩
  · rw [Tryz.func20] at hf; cases hf; exact plan_ok20
  refine List.forall_mem_cons.2 ⟨fun fn hf => ?_, ?_⟩
  · rw [Tryz.func21] at hf; cases hf; exact plan_ok21
  refine List.forall_mem_cons.2 ⟨fun fn hf => ?_, ?_⟩
  · rw [Tryz.func23] at hf; cases hf; exact plan_ok23
  refine List.forall_mem_cons.2 ⟨fun fn hf => ?_, ?_⟩
  · rw [Tryz.func24] at hf; cases hf; exact plan_ok24
  refine List.forall_mem_cons.2 ⟨fun fn hf => ?_, ?_⟩
  · rw [Tryz.func25] at hf; cases hf; exact plan_ok25
  refine List.forall_mem_cons.2 ⟨fun fn hf => ?_, ?_⟩
  · rw [Tryz.func28] at hf; cases hf; exact plan_ok28
  refine List.forall_mem_cons.2 ⟨fun fn hf => ?_, ?_⟩
  · rw [Tryz.func29] at hf; cases hf; exact plan_ok29
  refine List.forall_mem_cons.2 ⟨fun fn hf => ?_, ?_⟩
  · rw [Tryz.func32] at hf; cases hf; exact plan_ok32
  refine List.forall_mem_cons.2 ⟨fun fn hf => ?_, ?_⟩
  · rw [Tryz.func33] at hf; cases hf; exact plan_ok33
  refine List.forall_mem_cons.2 ⟨fun fn hf => ?_, ?_⟩
  · rw [Tryz.func34] at hf; cases hf; exact plan_ok34
  refine List.forall_mem_cons.2 ⟨fun fn hf => ?_, ?_⟩
  · rw [Tryz.func35] at hf; cases hf; exact plan_ok35
  refine List.forall_mem_cons.2 ⟨fun fn hf => ?_, ?_⟩
  · rw [Tryz.func36] at hf; cases hf; exact plan_ok36
  refine List.forall_mem_cons.2 ⟨fun fn hf => ?_, ?_⟩
  · rw [Tryz.func38] at hf; cases hf; exact plan_ok38
  refine List.forall_mem_cons.2 ⟨fun fn hf => ?_, ?_⟩
  · rw [Tryz.func40] at hf; cases hf; exact plan_ok40
  refine List.forall_mem_cons.2 ⟨fun fn hf => ?_, ?_⟩
  · rw [Tryz.func41] at hf; cases hf; exact plan_ok41
  refine List.forall_mem_cons.2 ⟨fun fn hf => ?_, ?_⟩
  · rw [Tryz.func47] at hf; cases hf; exact plan_ok47
  refine List.forall_mem_cons.2 ⟨fun fn hf => ?_, ?_⟩
  · rw [Tryz.func49] at hf; cases hf; exact plan_ok49
  refine List.forall_mem_cons.2 ⟨fun fn hf => ?_, ?_⟩
  · rw [Tryz.func52] at hf; cases hf; exact plan_ok52
  refine List.forall_mem_cons.2 ⟨fun fn hf => ?_, ?_⟩
  · rw [Tryz.func55] at hf; cases hf; exact plan_ok55
  refine List.forall_mem_cons.2 ⟨fun fn hf => ?_, ?_⟩
  · rw [Tryz.func56] at hf; cases hf; exact plan_ok56
  refine List.forall_mem_cons.2 ⟨fun fn hf => ?_, ?_⟩
  · rw [Tryz.func58] at hf; cases hf; exact plan_ok58
  refine List.forall_mem_cons.2 ⟨fun fn hf => ?_, ?_⟩
  · rw [Tryz.func60] at hf; cases hf; exact plan_ok60
  refine List.forall_mem_cons.2 ⟨fun fn hf => ?_, ?_⟩
  · rw [Tryz.func61] at hf; cases hf; exact plan_ok61
  refine List.forall_mem_cons.2 ⟨fun fn hf => ?_, ?_⟩
  · rw [Tryz.func63] at hf; cases hf; exact plan_ok63
  refine List.forall_mem_cons.2 ⟨fun fn hf => ?_, ?_⟩
  · rw [Tryz.func81] at hf; cases hf; exact plan_ok81
  refine List.forall_mem_cons.2 ⟨fun fn hf => ?_, ?_⟩
  · rw [Tryz.func85] at hf; cases hf; exact plan_ok85
  refine List.forall_mem_cons.2 ⟨fun fn hf => ?_, ?_⟩
  · rw [Tryz.func88] at hf; cases hf; exact plan_ok88
  refine List.forall_mem_cons.2 ⟨fun fn hf => ?_, ?_⟩
  · rw [Tryz.func92] at hf; cases hf; exact plan_ok92
  refine List.forall_mem_cons.2 ⟨fun fn hf => ?_, ?_⟩
  · rw [Tryz.func94] at hf; cases hf; exact plan_ok94
  refine List.forall_mem_cons.2 ⟨fun fn hf => ?_, ?_⟩
  · rw [Tryz.func95] at hf; cases hf; exact plan_ok95
  refine List.forall_mem_cons.2 ⟨fun fn hf => ?_, ?_⟩
  · rw [Tryz.func97] at hf; cases hf; exact plan_ok97
  refine List.forall_mem_cons.2 ⟨fun fn hf => ?_, ?_⟩
  · rw [Tryz.func98] at hf; cases hf; exact plan_ok98
  exact fun x hx => by cases hx
theorem plans_lot1 : ∀ f ∈ ([99, 100, 101, 102, 105, 108, 109, 110, 111, 112, 114, 115, 116, 120, 123, 124, 129, 137, 139, 140, 141, 143, 144, 157, 158, 159, 160, 162, 177, 178, 182, 183, 191, 192, 195, 196, 204, 207, 210, 213] : List Nat), ∀ fn, Tryz.prog.funcs[f]? = some fn → bodyOk plans f fn = true := by
  refine List.forall_mem_cons.2 ⟨fun fn hf => ?_, ?_⟩
  · rw [Tryz.func99] at hf; cases hf; exact plan_ok99
  refine List.forall_mem_cons.2 ⟨fun fn hf => ?_, ?_⟩
  · rw [Tryz.func100] at hf; cases hf; exact plan_ok100
  refine List.forall_mem_cons.2 ⟨fun fn hf => ?_, ?_⟩
  · rw [Tryz.func101] at hf; cases hf; exact plan_ok101
  refine List.forall_mem_cons.2 ⟨fun fn hf => ?_, ?_⟩
  · rw [Tryz.func102] at hf; cases hf; exact plan_ok102
  refine List.forall_mem_cons.2 ⟨fun fn hf => ?_, ?_⟩
  · rw [Tryz.func105] at hf; cases hf; exact plan_ok105
  refine List.forall_mem_cons.2 ⟨fun fn hf => ?_, ?_⟩
  · rw [Tryz.func108] at hf; cases hf; exact plan_ok108
  refine List.forall_mem_cons.2 ⟨fun fn hf => ?_, ?_⟩
  · rw [Tryz.func109] at hf; cases hf; exact plan_ok109
  refine List.forall_mem_cons.2 ⟨fun fn hf => ?_, ?_⟩
  · rw [Tryz.func110] at hf; cases hf; exact plan_ok110
  refine List.forall_mem_cons.2 ⟨fun fn hf => ?_, ?_⟩
  · rw [Tryz.func111] at hf; cases hf; exact plan_ok111
  refine List.forall_mem_cons.2 ⟨fun fn hf => ?_, ?_⟩
  · rw [Tryz.func112] at hf; cases hf; exact plan_ok112
  refine List.forall_mem_cons.2 ⟨fun fn hf => ?_, ?_⟩
  · rw [Tryz.func114] at hf; cases hf; exact plan_ok114
  refine List.forall_mem_cons.2 ⟨fun fn hf => ?_, ?_⟩
  · rw [Tryz.func115] at hf; cases hf; exact plan_ok115
  refine List.forall_mem_cons.2 ⟨fun fn hf => ?_, ?_⟩
  · rw [Tryz.func116] at hf; cases hf; exact plan_ok116
  refine List.forall_mem_cons.2 ⟨fun fn hf => ?_, ?_⟩
  · rw [Tryz.func120] at hf; cases hf; exact plan_ok120
  refine List.forall_mem_cons.2 ⟨fun fn hf => ?_, ?_⟩
  · rw [Tryz.func123] at hf; cases hf; exact plan_ok123
  refine List.forall_mem_cons.2 ⟨fun fn hf => ?_, ?_⟩
  · rw [Tryz.func124] at hf; cases hf; exact plan_ok124
  refine List.forall_mem_cons.2 ⟨fun fn hf => ?_, ?_⟩
  · rw [Tryz.func129] at hf; cases hf; exact plan_ok129
  refine List.forall_mem_cons.2 ⟨fun fn hf => ?_, ?_⟩
  · rw [Tryz.func137] at hf; cases hf; exact plan_ok137
  refine List.forall_mem_cons.2 ⟨fun fn hf => ?_, ?_⟩
  · rw [Tryz.func139] at hf; cases hf; exact plan_ok139
  refine List.forall_mem_cons.2 ⟨fun fn hf => ?_, ?_⟩
  · rw [Tryz.func140] at hf; cases hf; exact plan_ok140
  refine List.forall_mem_cons.2 ⟨fun fn hf => ?_, ?_⟩
  · rw [Tryz.func141] at hf; cases hf; exact plan_ok141
  refine List.forall_mem_cons.2 ⟨fun fn hf => ?_, ?_⟩
  · rw [Tryz.func143] at hf; cases hf; exact plan_ok143
  refine List.forall_mem_cons.2 ⟨fun fn hf => ?_, ?_⟩
  · rw [Tryz.func144] at hf; cases hf; exact plan_ok144
  refine List.forall_mem_cons.2 ⟨fun fn hf => ?_, ?_⟩
  · rw [Tryz.func157] at hf; cases hf; exact plan_ok157
  refine List.forall_mem_cons.2 ⟨fun fn hf => ?_, ?_⟩
  · rw [Tryz.func158] at hf; cases hf; exact plan_ok158
  refine List.forall_mem_cons.2 ⟨fun fn hf => ?_, ?_⟩
  · rw [Tryz.func159] at hf; cases hf; exact plan_ok159
  refine List.forall_mem_cons.2 ⟨fun fn hf => ?_, ?_⟩
  · rw [Tryz.func160] at hf; cases hf; exact plan_ok160
  refine List.forall_mem_cons.2 ⟨fun fn hf => ?_, ?_⟩
  · rw [Tryz.func162] at hf; cases hf; exact plan_ok162
  refine List.forall_mem_cons.2 ⟨fun fn hf => ?_, ?_⟩
  · rw [Tryz.func177] at hf; cases hf; exact plan_ok177
  refine List.forall_mem_cons.2 ⟨fun fn hf => ?_, ?_⟩
  · rw [Tryz.func178] at hf; cases hf; exact plan_ok178
  refine List.forall_mem_cons.2 ⟨fun fn hf => ?_, ?_⟩
  · rw [Tryz.func182] at hf; cases hf; exact plan_ok182
  refine List.forall_mem_cons.2 ⟨fun fn hf => ?_, ?_⟩
  · rw [Tryz.func183] at hf; cases hf; exact plan_ok183
  refine List.forall_mem_cons.2 ⟨fun fn hf => ?_, ?_⟩
  · rw [Tryz.func191] at hf; cases hf; exact plan_ok191
  refine List.forall_mem_cons.2 ⟨fun fn hf => ?_, ?_⟩
  · rw [Tryz.func192] at hf; cases hf; exact plan_ok192
  refine List.forall_mem_cons.2 ⟨fun fn hf => ?_, ?_⟩
  · rw [Tryz.func195] at hf; cases hf; exact plan_ok195
  refine List.forall_mem_cons.2 ⟨fun fn hf => ?_, ?_⟩
  · rw [Tryz.func196] at hf; cases hf; exact plan_ok196
  refine List.forall_mem_cons.2 ⟨fun fn hf => ?_, ?_⟩
  · rw [Tryz.func204] at hf; cases hf; exact plan_ok204
  refine List.forall_mem_cons.2 ⟨fun fn hf => ?_, ?_⟩
  · rw [Tryz.func207] at hf; cases hf; exact plan_ok207
  refine List.forall_mem_cons.2 ⟨fun fn hf => ?_, ?_⟩
  · rw [Tryz.func210] at hf; cases hf; exact plan_ok210
  refine List.forall_mem_cons.2 ⟨fun fn hf => ?_, ?_⟩
  · rw [Tryz.func213] at hf; cases hf; exact plan_ok213
  exact fun x hx => by cases hx
theorem plans_lot2 : ∀ f ∈ ([215, 219, 220, 222, 223, 225, 227, 233, 241, 242, 243, 244, 245, 246, 247, 255, 260, 262, 263, 264, 265, 267, 268, 270, 271, 281, 282, 283, 284, 288, 289, 291, 292, 297, 298, 299, 301, 302, 303, 304] : List Nat), ∀ fn, Tryz.prog.funcs[f]? = some fn → bodyOk plans f fn = true := by
  refine List.forall_mem_cons.2 ⟨fun fn hf => ?_, ?_⟩
  · rw [Tryz.func215] at hf; cases hf; exact plan_ok215
  refine List.forall_mem_cons.2 ⟨fun fn hf => ?_, ?_⟩
  · rw [Tryz.func219] at hf; cases hf; exact plan_ok219
  refine List.forall_mem_cons.2 ⟨fun fn hf => ?_, ?_⟩
  · rw [Tryz.func220] at hf; cases hf; exact plan_ok220
  refine List.forall_mem_cons.2 ⟨fun fn hf => ?_, ?_⟩
  · rw [Tryz.func222] at hf; cases hf; exact plan_ok222
  refine List.forall_mem_cons.2 ⟨fun fn hf => ?_, ?_⟩
  · rw [Tryz.func223] at hf; cases hf; exact plan_ok223
  refine List.forall_mem_cons.2 ⟨fun fn hf => ?_, ?_⟩
  · rw [Tryz.func225] at hf; cases hf; exact plan_ok225
  refine List.forall_mem_cons.2 ⟨fun fn hf => ?_, ?_⟩
  · rw [Tryz.func227] at hf; cases hf; exact plan_ok227
  refine List.forall_mem_cons.2 ⟨fun fn hf => ?_, ?_⟩
  · rw [Tryz.func233] at hf; cases hf; exact plan_ok233
  refine List.forall_mem_cons.2 ⟨fun fn hf => ?_, ?_⟩
  · rw [Tryz.func241] at hf; cases hf; exact plan_ok241
  refine List.forall_mem_cons.2 ⟨fun fn hf => ?_, ?_⟩
  · rw [Tryz.func242] at hf; cases hf; exact plan_ok242
  refine List.forall_mem_cons.2 ⟨fun fn hf => ?_, ?_⟩
  · rw [Tryz.func243] at hf; cases hf; exact plan_ok243
  refine List.forall_mem_cons.2 ⟨fun fn hf => ?_, ?_⟩
  · rw [Tryz.func244] at hf; cases hf; exact plan_ok244
  refine List.forall_mem_cons.2 ⟨fun fn hf => ?_, ?_⟩
  · rw [Tryz.func245] at hf; cases hf; exact plan_ok245
  refine List.forall_mem_cons.2 ⟨fun fn hf => ?_, ?_⟩
  · rw [Tryz.func246] at hf; cases hf; exact plan_ok246
  refine List.forall_mem_cons.2 ⟨fun fn hf => ?_, ?_⟩
  · rw [Tryz.func247] at hf; cases hf; exact plan_ok247
  refine List.forall_mem_cons.2 ⟨fun fn hf => ?_, ?_⟩
  · rw [Tryz.func255] at hf; cases hf; exact plan_ok255
  refine List.forall_mem_cons.2 ⟨fun fn hf => ?_, ?_⟩
  · rw [Tryz.func260] at hf; cases hf; exact plan_ok260
  refine List.forall_mem_cons.2 ⟨fun fn hf => ?_, ?_⟩
  · rw [Tryz.func262] at hf; cases hf; exact plan_ok262
  refine List.forall_mem_cons.2 ⟨fun fn hf => ?_, ?_⟩
  · rw [Tryz.func263] at hf; cases hf; exact plan_ok263
  refine List.forall_mem_cons.2 ⟨fun fn hf => ?_, ?_⟩
  · rw [Tryz.func264] at hf; cases hf; exact plan_ok264
  refine List.forall_mem_cons.2 ⟨fun fn hf => ?_, ?_⟩
  · rw [Tryz.func265] at hf; cases hf; exact plan_ok265
  refine List.forall_mem_cons.2 ⟨fun fn hf => ?_, ?_⟩
  · rw [Tryz.func267] at hf; cases hf; exact plan_ok267
  refine List.forall_mem_cons.2 ⟨fun fn hf => ?_, ?_⟩
  · rw [Tryz.func268] at hf; cases hf; exact plan_ok268
  refine List.forall_mem_cons.2 ⟨fun fn hf => ?_, ?_⟩
  · rw [Tryz.func270] at hf; cases hf; exact plan_ok270
  refine List.forall_mem_cons.2 ⟨fun fn hf => ?_, ?_⟩
  · rw [Tryz.func271] at hf; cases hf; exact plan_ok271
  refine List.forall_mem_cons.2 ⟨fun fn hf => ?_, ?_⟩
  · rw [Tryz.func281] at hf; cases hf; exact plan_ok281
  refine List.forall_mem_cons.2 ⟨fun fn hf => ?_, ?_⟩
  · rw [Tryz.func282] at hf; cases hf; exact plan_ok282
  refine List.forall_mem_cons.2 ⟨fun fn hf => ?_, ?_⟩
  · rw [Tryz.func283] at hf; cases hf; exact plan_ok283
  refine List.forall_mem_cons.2 ⟨fun fn hf => ?_, ?_⟩
  · rw [Tryz.func284] at hf; cases hf; exact plan_ok284
  refine List.forall_mem_cons.2 ⟨fun fn hf => ?_, ?_⟩
  · rw [Tryz.func288] at hf; cases hf; exact plan_ok288
  refine List.forall_mem_cons.2 ⟨fun fn hf => ?_, ?_⟩
  · rw [Tryz.func289] at hf; cases hf; exact plan_ok289
  refine List.forall_mem_cons.2 ⟨fun fn hf => ?_, ?_⟩
  · rw [Tryz.func291] at hf; cases hf; exact plan_ok291
  refine List.forall_mem_cons.2 ⟨fun fn hf => ?_, ?_⟩
  · rw [Tryz.func292] at hf; cases hf; exact plan_ok292
  refine List.forall_mem_cons.2 ⟨fun fn hf => ?_, ?_⟩
  · rw [Tryz.func297] at hf; cases hf; exact plan_ok297
  refine List.forall_mem_cons.2 ⟨fun fn hf => ?_, ?_⟩
  · rw [Tryz.func298] at hf; cases hf; exact plan_ok298
  refine List.forall_mem_cons.2 ⟨fun fn hf => ?_, ?_⟩
  · rw [Tryz.func299] at hf; cases hf; exact plan_ok299
  refine List.forall_mem_cons.2 ⟨fun fn hf => ?_, ?_⟩
  · rw [Tryz.func301] at hf; cases hf; exact plan_ok301
  refine List.forall_mem_cons.2 ⟨fun fn hf => ?_, ?_⟩
  · rw [Tryz.func302] at hf; cases hf; exact plan_ok302
  refine List.forall_mem_cons.2 ⟨fun fn hf => ?_, ?_⟩
  · rw [Tryz.func303] at hf; cases hf; exact plan_ok303
  refine List.forall_mem_cons.2 ⟨fun fn hf => ?_, ?_⟩
  · rw [Tryz.func304] at hf; cases hf; exact plan_ok304
  exact fun x hx => by cases hx
theorem plans_lot3 : ∀ f ∈ ([305, 306, 311, 314, 315, 317, 318, 321, 323, 327, 332, 338, 344, 345, 346, 347, 348, 349, 350, 351, 352, 354, 355, 357, 358, 364, 365, 366, 367, 369, 370, 371, 372, 373, 378, 381, 382, 405, 407, 408] : List Nat), ∀ fn, Tryz.prog.funcs[f]? = some fn → bodyOk plans f fn = true := by
  refine List.forall_mem_cons.2 ⟨fun fn hf => ?_, ?_⟩
  · rw [Tryz.func305] at hf; cases hf; exact plan_ok305
  refine List.forall_mem_cons.2 ⟨fun fn hf => ?_, ?_⟩
  · rw [Tryz.func306] at hf; cases hf; exact plan_ok306
  refine List.forall_mem_cons.2 ⟨fun fn hf => ?_, ?_⟩
  · rw [Tryz.func311] at hf; cases hf; exact plan_ok311
  refine List.forall_mem_cons.2 ⟨fun fn hf => ?_, ?_⟩
  · rw [Tryz.func314] at hf; cases hf; exact plan_ok314
  refine List.forall_mem_cons.2 ⟨fun fn hf => ?_, ?_⟩
  · rw [Tryz.func315] at hf; cases hf; exact plan_ok315
  refine List.forall_mem_cons.2 ⟨fun fn hf => ?_, ?_⟩
  · rw [Tryz.func317] at hf; cases hf; exact plan_ok317
  refine List.forall_mem_cons.2 ⟨fun fn hf => ?_, ?_⟩
  · rw [Tryz.func318] at hf; cases hf; exact plan_ok318
  refine List.forall_mem_cons.2 ⟨fun fn hf => ?_, ?_⟩
  · rw [Tryz.func321] at hf; cases hf; exact plan_ok321
  refine List.forall_mem_cons.2 ⟨fun fn hf => ?_, ?_⟩
  · rw [Tryz.func323] at hf; cases hf; exact plan_ok323
  refine List.forall_mem_cons.2 ⟨fun fn hf => ?_, ?_⟩
  · rw [Tryz.func327] at hf; cases hf; exact plan_ok327
  refine List.forall_mem_cons.2 ⟨fun fn hf => ?_, ?_⟩
  · rw [Tryz.func332] at hf; cases hf; exact plan_ok332
  refine List.forall_mem_cons.2 ⟨fun fn hf => ?_, ?_⟩
  · rw [Tryz.func338] at hf; cases hf; exact plan_ok338
  refine List.forall_mem_cons.2 ⟨fun fn hf => ?_, ?_⟩
  · rw [Tryz.func344] at hf; cases hf; exact plan_ok344
  refine List.forall_mem_cons.2 ⟨fun fn hf => ?_, ?_⟩
  · rw [Tryz.func345] at hf; cases hf; exact plan_ok345
  refine List.forall_mem_cons.2 ⟨fun fn hf => ?_, ?_⟩
  · rw [Tryz.func346] at hf; cases hf; exact plan_ok346
  refine List.forall_mem_cons.2 ⟨fun fn hf => ?_, ?_⟩
  · rw [Tryz.func347] at hf; cases hf; exact plan_ok347
  refine List.forall_mem_cons.2 ⟨fun fn hf => ?_, ?_⟩
  · rw [Tryz.func348] at hf; cases hf; exact plan_ok348
  refine List.forall_mem_cons.2 ⟨fun fn hf => ?_, ?_⟩
  · rw [Tryz.func349] at hf; cases hf; exact plan_ok349
  refine List.forall_mem_cons.2 ⟨fun fn hf => ?_, ?_⟩
  · rw [Tryz.func350] at hf; cases hf; exact plan_ok350
  refine List.forall_mem_cons.2 ⟨fun fn hf => ?_, ?_⟩
  · rw [Tryz.func351] at hf; cases hf; exact plan_ok351
  refine List.forall_mem_cons.2 ⟨fun fn hf => ?_, ?_⟩
  · rw [Tryz.func352] at hf; cases hf; exact plan_ok352
  refine List.forall_mem_cons.2 ⟨fun fn hf => ?_, ?_⟩
  · rw [Tryz.func354] at hf; cases hf; exact plan_ok354
  refine List.forall_mem_cons.2 ⟨fun fn hf => ?_, ?_⟩
  · rw [Tryz.func355] at hf; cases hf; exact plan_ok355
  refine List.forall_mem_cons.2 ⟨fun fn hf => ?_, ?_⟩
  · rw [Tryz.func357] at hf; cases hf; exact plan_ok357
  refine List.forall_mem_cons.2 ⟨fun fn hf => ?_, ?_⟩
  · rw [Tryz.func358] at hf; cases hf; exact plan_ok358
  refine List.forall_mem_cons.2 ⟨fun fn hf => ?_, ?_⟩
  · rw [Tryz.func364] at hf; cases hf; exact plan_ok364
  refine List.forall_mem_cons.2 ⟨fun fn hf => ?_, ?_⟩
  · rw [Tryz.func365] at hf; cases hf; exact plan_ok365
  refine List.forall_mem_cons.2 ⟨fun fn hf => ?_, ?_⟩
  · rw [Tryz.func366] at hf; cases hf; exact plan_ok366
  refine List.forall_mem_cons.2 ⟨fun fn hf => ?_, ?_⟩
  · rw [Tryz.func367] at hf; cases hf; exact plan_ok367
  refine List.forall_mem_cons.2 ⟨fun fn hf => ?_, ?_⟩
  · rw [Tryz.func369] at hf; cases hf; exact plan_ok369
  refine List.forall_mem_cons.2 ⟨fun fn hf => ?_, ?_⟩
  · rw [Tryz.func370] at hf; cases hf; exact plan_ok370
  refine List.forall_mem_cons.2 ⟨fun fn hf => ?_, ?_⟩
  · rw [Tryz.func371] at hf; cases hf; exact plan_ok371
  refine List.forall_mem_cons.2 ⟨fun fn hf => ?_, ?_⟩
  · rw [Tryz.func372] at hf; cases hf; exact plan_ok372
  refine List.forall_mem_cons.2 ⟨fun fn hf => ?_, ?_⟩
  · rw [Tryz.func373] at hf; cases hf; exact plan_ok373
  refine List.forall_mem_cons.2 ⟨fun fn hf => ?_, ?_⟩
  · rw [Tryz.func378] at hf; cases hf; exact plan_ok378
  refine List.forall_mem_cons.2 ⟨fun fn hf => ?_, ?_⟩
  · rw [Tryz.func381] at hf; cases hf; exact plan_ok381
  refine List.forall_mem_cons.2 ⟨fun fn hf => ?_, ?_⟩
  · rw [Tryz.func382] at hf; cases hf; exact plan_ok382
  refine List.forall_mem_cons.2 ⟨fun fn hf => ?_, ?_⟩
  · rw [Tryz.func405] at hf; cases hf; exact plan_ok405
  refine List.forall_mem_cons.2 ⟨fun fn hf => ?_, ?_⟩
  · rw [Tryz.func407] at hf; cases hf; exact plan_ok407
  refine List.forall_mem_cons.2 ⟨fun fn hf => ?_, ?_⟩
  · rw [Tryz.func408] at hf; cases hf; exact plan_ok408
  exact fun x hx => by cases hx
theorem plans_lot4 : ∀ f ∈ ([412, 415, 416, 419, 421, 422, 426, 428, 429, 433, 435, 439, 440, 441, 442] : List Nat), ∀ fn, Tryz.prog.funcs[f]? = some fn → bodyOk plans f fn = true := by
  refine List.forall_mem_cons.2 ⟨fun fn hf => ?_, ?_⟩
  · rw [Tryz.func412] at hf; cases hf; exact plan_ok412
  refine List.forall_mem_cons.2 ⟨fun fn hf => ?_, ?_⟩
  · rw [Tryz.func415] at hf; cases hf; exact plan_ok415
  refine List.forall_mem_cons.2 ⟨fun fn hf => ?_, ?_⟩
  · rw [Tryz.func416] at hf; cases hf; exact plan_ok416
  refine List.forall_mem_cons.2 ⟨fun fn hf => ?_, ?_⟩
  · rw [Tryz.func419] at hf; cases hf; exact plan_ok419
  refine List.forall_mem_cons.2 ⟨fun fn hf => ?_, ?_⟩
  · rw [Tryz.func421] at hf; cases hf; exact plan_ok421
  refine List.forall_mem_cons.2 ⟨fun fn hf => ?_, ?_⟩
  · rw [Tryz.func422] at hf; cases hf; exact plan_ok422
  refine List.forall_mem_cons.2 ⟨fun fn hf => ?_, ?_⟩
  · rw [Tryz.func426] at hf; cases hf; exact plan_ok426
  refine List.forall_mem_cons.2 ⟨fun fn hf => ?_, ?_⟩
  · rw [Tryz.func428] at hf; cases hf; exact plan_ok428
  refine List.forall_mem_cons.2 ⟨fun fn hf => ?_, ?_⟩
  · rw [Tryz.func429] at hf; cases hf; exact plan_ok429
  refine List.forall_mem_cons.2 ⟨fun fn hf => ?_, ?_⟩
  · rw [Tryz.func433] at hf; cases hf; exact plan_ok433
  refine List.forall_mem_cons.2 ⟨fun fn hf => ?_, ?_⟩
  · rw [Tryz.func435] at hf; cases hf; exact plan_ok435
  refine List.forall_mem_cons.2 ⟨fun fn hf => ?_, ?_⟩
  · rw [Tryz.func439] at hf; cases hf; exact plan_ok439
  refine List.forall_mem_cons.2 ⟨fun fn hf => ?_, ?_⟩
  · rw [Tryz.func440] at hf; cases hf; exact plan_ok440
  refine List.forall_mem_cons.2 ⟨fun fn hf => ?_, ?_⟩
  · rw [Tryz.func441] at hf; cases hf; exact plan_ok441
  refine List.forall_mem_cons.2 ⟨fun fn hf => ?_, ?_⟩
  · rw [Tryz.func442] at hf; cases hf; exact plan_ok442
  exact fun x hx => by cases hx
theorem planFs_cut : planFs = [3, 7, 8, 9, 10, 14, 16, 19, 20, 21, 23, 24, 25, 28, 29, 32, 33, 34, 35, 36, 38, 40, 41, 47, 49, 52, 55, 56, 58, 60, 61, 63, 81, 85, 88, 92, 94, 95, 97, 98] ++ [99, 100, 101, 102, 105, 108, 109, 110, 111, 112, 114, 115, 116, 120, 123, 124, 129, 137, 139, 140, 141, 143, 144, 157, 158, 159, 160, 162, 177, 178, 182, 183, 191, 192, 195, 196, 204, 207, 210, 213] ++ [215, 219, 220, 222, 223, 225, 227, 233, 241, 242, 243, 244, 245, 246, 247, 255, 260, 262, 263, 264, 265, 267, 268, 270, 271, 281, 282, 283, 284, 288, 289, 291, 292, 297, 298, 299, 301, 302, 303, 304] ++ [305, 306, 311, 314, 315, 317, 318, 321, 323, 327, 332, 338, 344, 345, 346, 347, 348, 349, 350, 351, 352, 354, 355, 357, 358, 364, 365, 366, 367, 369, 370, 371, 372, 373, 378, 381, 382, 405, 407, 408] ++ [412, 415, 416, 419, 421, 422, 426, 428, 429, 433, 435, 439, 440, 441, 442] := by kernel_rfl
theorem plans_ok : PlansOk Tryz.prog plans := by
  have key : ∀ f fn, Tryz.prog.funcs[f]? = some fn → bodyOk plans f fn = true := by
    intro f fn hf
    have h := List.all_eq_true.1 plans_rest (fn, f) (by rw [List.mem_zipIdx_iff_getElem?]; simpa using hf)
    simp only [Bool.or_eq_true] at h
    rcases h with h | h
    · have h := List.contains_iff_mem.1 h
      rw [planFs_cut] at h
      rcases List.mem_append.1 h with h | h
      rotate_left
      · exact plans_lot4 f h fn hf
      rcases List.mem_append.1 h with h | h
      rotate_left
      · exact plans_lot3 f h fn hf
      rcases List.mem_append.1 h with h | h
      rotate_left
      · exact plans_lot2 f h fn hf
      rcases List.mem_append.1 h with h | h
      rotate_left
      · exact plans_lot1 f h fn hf
      exact plans_lot0 f h fn hf
    · exact h
  refine ⟨fun f fn c hf hc => ?_, fun a ha => by cases ha⟩
  simpa [bodyOk, hc] using key f fn hf

end Go.Proofs.YtmifojdpdbjodaaGreat

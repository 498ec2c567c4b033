/-
  The plans serve every region that draws its order. Printed by plans.py.
-/
import Derived.Test.YtfomfboennjfoaaGreatCe
import Derived.Test.YtfomfboennjfoaaGreatProg
import Derived.Test.YtfomfboennjfoaaGreatPls
set_option linter.unusedVariables false
set_option linter.unusedSimpArgs false
namespace Go.Proofs.YtfomfboennjfoaaGreat
open Go

theorem follows_mixed : Tryz.prog.follows .mixedOrders = true := by kernel_rfl
def bodyOk (pl : Plans) (f : FuncId) (fn : Func) : Bool := match fn.body with
  | some c => codeOk pl f c
  | none => true
set_option maxRecDepth 100000 in
theorem plan_ok3 : bodyOk plans 3 Tryz.f3 = true := by kernel_rfl
set_option maxRecDepth 100000 in
theorem plan_ok8 : bodyOk plans 8 Tryz.f8 = true := by kernel_rfl
set_option maxRecDepth 100000 in
theorem plan_ok10 : bodyOk plans 10 Tryz.f10 = true := by kernel_rfl
set_option maxRecDepth 100000 in
theorem plan_ok15 : bodyOk plans 15 Tryz.f15 = true := by kernel_rfl
set_option maxRecDepth 100000 in
theorem plan_ok18 : bodyOk plans 18 Tryz.f18 = true := by kernel_rfl
set_option maxRecDepth 100000 in
theorem plan_ok20 : bodyOk plans 20 Tryz.f20 = true := by kernel_rfl
set_option maxRecDepth 100000 in
theorem plan_ok22 : bodyOk plans 22 Tryz.f22 = true := by kernel_rfl
set_option maxRecDepth 100000 in
theorem plan_ok26 : bodyOk plans 26 Tryz.f26 = true := by kernel_rfl
set_option maxRecDepth 100000 in
theorem plan_ok27 : bodyOk plans 27 Tryz.f27 = true := by kernel_rfl
set_option maxRecDepth 100000 in
theorem plan_ok28 : bodyOk plans 28 Tryz.f28 = true := by kernel_rfl
set_option maxRecDepth 100000 in
theorem plan_ok38 : bodyOk plans 38 Tryz.f38 = true := by kernel_rfl
set_option maxRecDepth 100000 in
theorem plan_ok39 : bodyOk plans 39 Tryz.f39 = true := by kernel_rfl
set_option maxRecDepth 100000 in
theorem plan_ok40 : bodyOk plans 40 Tryz.f40 = true := by kernel_rfl
set_option maxRecDepth 100000 in
theorem plan_ok41 : bodyOk plans 41 Tryz.f41 = true := by kernel_rfl
set_option maxRecDepth 100000 in
theorem plan_ok42 : bodyOk plans 42 Tryz.f42 = true := by kernel_rfl
set_option maxRecDepth 100000 in
theorem plan_ok45 : bodyOk plans 45 Tryz.f45 = true := by kernel_rfl
set_option maxRecDepth 100000 in
theorem plan_ok46 : bodyOk plans 46 Tryz.f46 = true := by kernel_rfl
set_option maxRecDepth 100000 in
theorem plan_ok49 : bodyOk plans 49 Tryz.f49 = true := by kernel_rfl
set_option maxRecDepth 100000 in
theorem plan_ok51 : bodyOk plans 51 Tryz.f51 = true := by kernel_rfl
set_option maxRecDepth 100000 in
theorem plan_ok53 : bodyOk plans 53 Tryz.f53 = true := by kernel_rfl
set_option maxRecDepth 100000 in
theorem plan_ok55 : bodyOk plans 55 Tryz.f55 = true := by kernel_rfl
set_option maxRecDepth 100000 in
theorem plan_ok58 : bodyOk plans 58 Tryz.f58 = true := by kernel_rfl
set_option maxRecDepth 100000 in
theorem plan_ok60 : bodyOk plans 60 Tryz.f60 = true := by kernel_rfl
set_option maxRecDepth 100000 in
theorem plan_ok64 : bodyOk plans 64 Tryz.f64 = true := by kernel_rfl
set_option maxRecDepth 100000 in
theorem plan_ok69 : bodyOk plans 69 Tryz.f69 = true := by kernel_rfl
set_option maxRecDepth 100000 in
theorem plan_ok71 : bodyOk plans 71 Tryz.f71 = true := by kernel_rfl
set_option maxRecDepth 100000 in
theorem plan_ok74 : bodyOk plans 74 Tryz.f74 = true := by kernel_rfl
set_option maxRecDepth 100000 in
theorem plan_ok77 : bodyOk plans 77 Tryz.f77 = true := by kernel_rfl
set_option maxRecDepth 100000 in
theorem plan_ok78 : bodyOk plans 78 Tryz.f78 = true := by kernel_rfl
set_option maxRecDepth 100000 in
theorem plan_ok88 : bodyOk plans 88 Tryz.f88 = true := by kernel_rfl
set_option maxRecDepth 100000 in
theorem plan_ok89 : bodyOk plans 89 Tryz.f89 = true := by kernel_rfl
set_option maxRecDepth 100000 in
theorem plan_ok90 : bodyOk plans 90 Tryz.f90 = true := by kernel_rfl
set_option maxRecDepth 100000 in
theorem plan_ok91 : bodyOk plans 91 Tryz.f91 = true := by kernel_rfl
set_option maxRecDepth 100000 in
theorem plan_ok94 : bodyOk plans 94 Tryz.f94 = true := by kernel_rfl
set_option maxRecDepth 100000 in
theorem plan_ok95 : bodyOk plans 95 Tryz.f95 = true := by kernel_rfl
set_option maxRecDepth 100000 in
theorem plan_ok107 : bodyOk plans 107 Tryz.f107 = true := by kernel_rfl
set_option maxRecDepth 100000 in
theorem plan_ok109 : bodyOk plans 109 Tryz.f109 = true := by kernel_rfl
set_option maxRecDepth 100000 in
theorem plan_ok110 : bodyOk plans 110 Tryz.f110 = true := by kernel_rfl
set_option maxRecDepth 100000 in
theorem plan_ok112 : bodyOk plans 112 Tryz.f112 = true := by kernel_rfl
set_option maxRecDepth 100000 in
theorem plan_ok113 : bodyOk plans 113 Tryz.f113 = true := by kernel_rfl
set_option maxRecDepth 100000 in
theorem plan_ok117 : bodyOk plans 117 Tryz.f117 = true := by kernel_rfl
set_option maxRecDepth 100000 in
theorem plan_ok118 : bodyOk plans 118 Tryz.f118 = true := by kernel_rfl
set_option maxRecDepth 100000 in
theorem plan_ok119 : bodyOk plans 119 Tryz.f119 = true := by kernel_rfl
set_option maxRecDepth 100000 in
theorem plan_ok121 : bodyOk plans 121 Tryz.f121 = true := by kernel_rfl
set_option maxRecDepth 100000 in
theorem plan_ok122 : bodyOk plans 122 Tryz.f122 = true := by kernel_rfl
set_option maxRecDepth 100000 in
theorem plan_ok124 : bodyOk plans 124 Tryz.f124 = true := by kernel_rfl
set_option maxRecDepth 100000 in
theorem plan_ok125 : bodyOk plans 125 Tryz.f125 = true := by kernel_rfl
set_option maxRecDepth 100000 in
theorem plan_ok132 : bodyOk plans 132 Tryz.f132 = true := by kernel_rfl
set_option maxRecDepth 100000 in
theorem plan_ok133 : bodyOk plans 133 Tryz.f133 = true := by kernel_rfl
set_option maxRecDepth 100000 in
theorem plan_ok144 : bodyOk plans 144 Tryz.f144 = true := by kernel_rfl
set_option maxRecDepth 100000 in
theorem plan_ok146 : bodyOk plans 146 Tryz.f146 = true := by kernel_rfl
set_option maxRecDepth 100000 in
theorem plan_ok150 : bodyOk plans 150 Tryz.f150 = true := by kernel_rfl
set_option maxRecDepth 100000 in
theorem plan_ok152 : bodyOk plans 152 Tryz.f152 = true := by kernel_rfl
set_option maxRecDepth 100000 in
theorem plan_ok153 : bodyOk plans 153 Tryz.f153 = true := by kernel_rfl
set_option maxRecDepth 100000 in
theorem plan_ok154 : bodyOk plans 154 Tryz.f154 = true := by kernel_rfl
set_option maxRecDepth 100000 in
theorem plan_ok155 : bodyOk plans 155 Tryz.f155 = true := by kernel_rfl
set_option maxRecDepth 100000 in
theorem plan_ok156 : bodyOk plans 156 Tryz.f156 = true := by kernel_rfl
set_option maxRecDepth 100000 in
theorem plan_ok157 : bodyOk plans 157 Tryz.f157 = true := by kernel_rfl
set_option maxRecDepth 100000 in
theorem plan_ok158 : bodyOk plans 158 Tryz.f158 = true := by kernel_rfl
set_option maxRecDepth 100000 in
theorem plan_ok161 : bodyOk plans 161 Tryz.f161 = true := by kernel_rfl
set_option maxRecDepth 100000 in
theorem plan_ok164 : bodyOk plans 164 Tryz.f164 = true := by kernel_rfl
set_option maxRecDepth 100000 in
theorem plan_ok165 : bodyOk plans 165 Tryz.f165 = true := by kernel_rfl
set_option maxRecDepth 100000 in
theorem plan_ok166 : bodyOk plans 166 Tryz.f166 = true := by kernel_rfl
set_option maxRecDepth 100000 in
theorem plan_ok170 : bodyOk plans 170 Tryz.f170 = true := by kernel_rfl
set_option maxRecDepth 100000 in
theorem plan_ok173 : bodyOk plans 173 Tryz.f173 = true := by kernel_rfl
set_option maxRecDepth 100000 in
theorem plan_ok174 : bodyOk plans 174 Tryz.f174 = true := by kernel_rfl
set_option maxRecDepth 100000 in
theorem plan_ok178 : bodyOk plans 178 Tryz.f178 = true := by kernel_rfl
set_option maxRecDepth 100000 in
theorem plan_ok179 : bodyOk plans 179 Tryz.f179 = true := by kernel_rfl
set_option maxRecDepth 100000 in
theorem plan_ok183 : bodyOk plans 183 Tryz.f183 = true := by kernel_rfl
set_option maxRecDepth 100000 in
theorem plan_ok186 : bodyOk plans 186 Tryz.f186 = true := by kernel_rfl
set_option maxRecDepth 100000 in
theorem plan_ok187 : bodyOk plans 187 Tryz.f187 = true := by kernel_rfl
set_option maxRecDepth 100000 in
theorem plan_ok192 : bodyOk plans 192 Tryz.f192 = true := by kernel_rfl
set_option maxRecDepth 100000 in
theorem plan_ok193 : bodyOk plans 193 Tryz.f193 = true := by kernel_rfl
set_option maxRecDepth 100000 in
theorem plan_ok194 : bodyOk plans 194 Tryz.f194 = true := by kernel_rfl
set_option maxRecDepth 100000 in
theorem plan_ok196 : bodyOk plans 196 Tryz.f196 = true := by kernel_rfl
set_option maxRecDepth 100000 in
theorem plan_ok197 : bodyOk plans 197 Tryz.f197 = true := by kernel_rfl
set_option maxRecDepth 100000 in
theorem plan_ok199 : bodyOk plans 199 Tryz.f199 = true := by kernel_rfl
set_option maxRecDepth 100000 in
theorem plan_ok200 : bodyOk plans 200 Tryz.f200 = true := by kernel_rfl
set_option maxRecDepth 100000 in
theorem plan_ok204 : bodyOk plans 204 Tryz.f204 = true := by kernel_rfl
set_option maxRecDepth 100000 in
theorem plan_ok212 : bodyOk plans 212 Tryz.f212 = true := by kernel_rfl
set_option maxRecDepth 100000 in
theorem plan_ok214 : bodyOk plans 214 Tryz.f214 = true := by kernel_rfl
set_option maxRecDepth 100000 in
theorem plan_ok215 : bodyOk plans 215 Tryz.f215 = true := by kernel_rfl
set_option maxRecDepth 100000 in
theorem plan_ok216 : bodyOk plans 216 Tryz.f216 = true := by kernel_rfl
set_option maxRecDepth 100000 in
theorem plan_ok218 : bodyOk plans 218 Tryz.f218 = true := by kernel_rfl
set_option maxRecDepth 100000 in
theorem plan_ok219 : bodyOk plans 219 Tryz.f219 = true := by kernel_rfl
set_option maxRecDepth 100000 in
theorem plan_ok221 : bodyOk plans 221 Tryz.f221 = true := by kernel_rfl
set_option maxRecDepth 100000 in
theorem plan_ok236 : bodyOk plans 236 Tryz.f236 = true := by kernel_rfl
set_option maxRecDepth 100000 in
theorem plan_ok237 : bodyOk plans 237 Tryz.f237 = true := by kernel_rfl
set_option maxRecDepth 100000 in
theorem plan_ok241 : bodyOk plans 241 Tryz.f241 = true := by kernel_rfl
set_option maxRecDepth 100000 in
theorem plan_ok242 : bodyOk plans 242 Tryz.f242 = true := by kernel_rfl
set_option maxRecDepth 100000 in
theorem plan_ok249 : bodyOk plans 249 Tryz.f249 = true := by kernel_rfl
set_option maxRecDepth 100000 in
theorem plan_ok252 : bodyOk plans 252 Tryz.f252 = true := by kernel_rfl
set_option maxRecDepth 100000 in
theorem plan_ok254 : bodyOk plans 254 Tryz.f254 = true := by kernel_rfl
set_option maxRecDepth 100000 in
theorem plan_ok255 : bodyOk plans 255 Tryz.f255 = true := by kernel_rfl
set_option maxRecDepth 100000 in
theorem plan_ok259 : bodyOk plans 259 Tryz.f259 = true := by kernel_rfl
set_option maxRecDepth 100000 in
theorem plan_ok268 : bodyOk plans 268 Tryz.f268 = true := by kernel_rfl
set_option maxRecDepth 100000 in
theorem plan_ok270 : bodyOk plans 270 Tryz.f270 = true := by kernel_rfl
set_option maxRecDepth 100000 in
theorem plan_ok274 : bodyOk plans 274 Tryz.f274 = true := by kernel_rfl
set_option maxRecDepth 100000 in
theorem plan_ok276 : bodyOk plans 276 Tryz.f276 = true := by kernel_rfl
set_option maxRecDepth 100000 in
theorem plan_ok280 : bodyOk plans 280 Tryz.f280 = true := by kernel_rfl
set_option maxRecDepth 100000 in
theorem plan_ok281 : bodyOk plans 281 Tryz.f281 = true := by kernel_rfl
set_option maxRecDepth 100000 in
theorem plan_ok283 : bodyOk plans 283 Tryz.f283 = true := by kernel_rfl
set_option maxRecDepth 100000 in
theorem plan_ok285 : bodyOk plans 285 Tryz.f285 = true := by kernel_rfl
set_option maxRecDepth 100000 in
theorem plan_ok286 : bodyOk plans 286 Tryz.f286 = true := by kernel_rfl
set_option maxRecDepth 100000 in
theorem plan_ok291 : bodyOk plans 291 Tryz.f291 = true := by kernel_rfl
set_option maxRecDepth 100000 in
theorem plan_ok292 : bodyOk plans 292 Tryz.f292 = true := by kernel_rfl
set_option maxRecDepth 100000 in
theorem plan_ok293 : bodyOk plans 293 Tryz.f293 = true := by kernel_rfl
set_option maxRecDepth 100000 in
theorem plan_ok294 : bodyOk plans 294 Tryz.f294 = true := by kernel_rfl
set_option maxRecDepth 100000 in
theorem plan_ok295 : bodyOk plans 295 Tryz.f295 = true := by kernel_rfl
set_option maxRecDepth 100000 in
theorem plan_ok296 : bodyOk plans 296 Tryz.f296 = true := by kernel_rfl
set_option maxRecDepth 100000 in
theorem plan_ok297 : bodyOk plans 297 Tryz.f297 = true := by kernel_rfl
set_option maxRecDepth 100000 in
theorem plan_ok305 : bodyOk plans 305 Tryz.f305 = true := by kernel_rfl
set_option maxRecDepth 100000 in
theorem plan_ok306 : bodyOk plans 306 Tryz.f306 = true := by kernel_rfl
set_option maxRecDepth 100000 in
theorem plan_ok316 : bodyOk plans 316 Tryz.f316 = true := by kernel_rfl
set_option maxRecDepth 100000 in
theorem plan_ok318 : bodyOk plans 318 Tryz.f318 = true := by kernel_rfl
set_option maxRecDepth 100000 in
theorem plan_ok319 : bodyOk plans 319 Tryz.f319 = true := by kernel_rfl
set_option maxRecDepth 100000 in
theorem plan_ok323 : bodyOk plans 323 Tryz.f323 = true := by kernel_rfl
set_option maxRecDepth 100000 in
theorem plan_ok325 : bodyOk plans 325 Tryz.f325 = true := by kernel_rfl
set_option maxRecDepth 100000 in
theorem plan_ok326 : bodyOk plans 326 Tryz.f326 = true := by kernel_rfl
set_option maxRecDepth 100000 in
theorem plan_ok327 : bodyOk plans 327 Tryz.f327 = true := by kernel_rfl
set_option maxRecDepth 100000 in
theorem plan_ok329 : bodyOk plans 329 Tryz.f329 = true := by kernel_rfl
set_option maxRecDepth 100000 in
theorem plan_ok333 : bodyOk plans 333 Tryz.f333 = true := by kernel_rfl
set_option maxRecDepth 100000 in
theorem plan_ok334 : bodyOk plans 334 Tryz.f334 = true := by kernel_rfl
set_option maxRecDepth 100000 in
theorem plan_ok335 : bodyOk plans 335 Tryz.f335 = true := by kernel_rfl
set_option maxRecDepth 100000 in
theorem plan_ok336 : bodyOk plans 336 Tryz.f336 = true := by kernel_rfl
set_option maxRecDepth 100000 in
theorem plan_ok338 : bodyOk plans 338 Tryz.f338 = true := by kernel_rfl
set_option maxRecDepth 100000 in
theorem plan_ok343 : bodyOk plans 343 Tryz.f343 = true := by kernel_rfl
set_option maxRecDepth 100000 in
theorem plan_ok346 : bodyOk plans 346 Tryz.f346 = true := by kernel_rfl
set_option maxRecDepth 100000 in
theorem plan_ok347 : bodyOk plans 347 Tryz.f347 = true := by kernel_rfl
set_option maxRecDepth 100000 in
theorem plan_ok348 : bodyOk plans 348 Tryz.f348 = true := by kernel_rfl
set_option maxRecDepth 100000 in
theorem plan_ok349 : bodyOk plans 349 Tryz.f349 = true := by kernel_rfl
set_option maxRecDepth 100000 in
theorem plan_ok351 : bodyOk plans 351 Tryz.f351 = true := by kernel_rfl
set_option maxRecDepth 100000 in
theorem plan_ok354 : bodyOk plans 354 Tryz.f354 = true := by kernel_rfl
set_option maxRecDepth 100000 in
theorem plan_ok355 : bodyOk plans 355 Tryz.f355 = true := by kernel_rfl
set_option maxRecDepth 100000 in
theorem plan_ok358 : bodyOk plans 358 Tryz.f358 = true := by kernel_rfl
set_option maxRecDepth 100000 in
theorem plan_ok362 : bodyOk plans 362 Tryz.f362 = true := by kernel_rfl
set_option maxRecDepth 100000 in
theorem plan_ok363 : bodyOk plans 363 Tryz.f363 = true := by kernel_rfl
set_option maxRecDepth 100000 in
theorem plan_ok364 : bodyOk plans 364 Tryz.f364 = true := by kernel_rfl
set_option maxRecDepth 100000 in
theorem plan_ok371 : bodyOk plans 371 Tryz.f371 = true := by kernel_rfl
set_option maxRecDepth 100000 in
theorem plan_ok372 : bodyOk plans 372 Tryz.f372 = true := by kernel_rfl
set_option maxRecDepth 100000 in
theorem plan_ok373 : bodyOk plans 373 Tryz.f373 = true := by kernel_rfl
set_option maxRecDepth 100000 in
theorem plan_ok374 : bodyOk plans 374 Tryz.f374 = true := by kernel_rfl
set_option maxRecDepth 100000 in
theorem plan_ok375 : bodyOk plans 375 Tryz.f375 = true := by kernel_rfl
set_option maxRecDepth 100000 in
theorem plan_ok377 : bodyOk plans 377 Tryz.f377 = true := by kernel_rfl
set_option maxRecDepth 100000 in
theorem plan_ok378 : bodyOk plans 378 Tryz.f378 = true := by kernel_rfl
set_option maxRecDepth 100000 in
theorem plan_ok379 : bodyOk plans 379 Tryz.f379 = true := by kernel_rfl
set_option maxRecDepth 100000 in
theorem plan_ok381 : bodyOk plans 381 Tryz.f381 = true := by kernel_rfl
set_option maxRecDepth 100000 in
theorem plan_ok382 : bodyOk plans 382 Tryz.f382 = true := by kernel_rfl
set_option maxRecDepth 100000 in
theorem plan_ok383 : bodyOk plans 383 Tryz.f383 = true := by kernel_rfl
set_option maxRecDepth 100000 in
theorem plan_ok384 : bodyOk plans 384 Tryz.f384 = true := by kernel_rfl
set_option maxRecDepth 100000 in
theorem plan_ok385 : bodyOk plans 385 Tryz.f385 = true := by kernel_rfl
set_option maxRecDepth 100000 in
theorem plan_ok386 : bodyOk plans 386 Tryz.f386 = true := by kernel_rfl
set_option maxRecDepth 100000 in
theorem plan_ok387 : bodyOk plans 387 Tryz.f387 = true := by kernel_rfl
set_option maxRecDepth 100000 in
theorem plan_ok389 : bodyOk plans 389 Tryz.f389 = true := by kernel_rfl
set_option maxRecDepth 100000 in
theorem plan_ok390 : bodyOk plans 390 Tryz.f390 = true := by kernel_rfl
set_option maxRecDepth 100000 in
theorem plan_ok392 : bodyOk plans 392 Tryz.f392 = true := by kernel_rfl
set_option maxRecDepth 100000 in
theorem plan_ok393 : bodyOk plans 393 Tryz.f393 = true := by kernel_rfl
set_option maxRecDepth 100000 in
theorem plan_ok402 : bodyOk plans 402 Tryz.f402 = true := by kernel_rfl
set_option maxRecDepth 100000 in
theorem plan_ok403 : bodyOk plans 403 Tryz.f403 = true := by kernel_rfl
set_option maxRecDepth 100000 in
theorem plan_ok406 : bodyOk plans 406 Tryz.f406 = true := by kernel_rfl
set_option maxRecDepth 100000 in
theorem plan_ok410 : bodyOk plans 410 Tryz.f410 = true := by kernel_rfl
set_option maxRecDepth 100000 in
theorem plan_ok411 : bodyOk plans 411 Tryz.f411 = true := by kernel_rfl
set_option maxRecDepth 100000 in
theorem plan_ok442 : bodyOk plans 442 Tryz.f442 = true := by kernel_rfl
set_option maxRecDepth 100000 in
theorem plan_ok444 : bodyOk plans 444 Tryz.f444 = true := by kernel_rfl
set_option maxRecDepth 100000 in
theorem plan_ok445 : bodyOk plans 445 Tryz.f445 = true := by kernel_rfl
set_option maxRecDepth 100000 in
theorem plan_ok449 : bodyOk plans 449 Tryz.f449 = true := by kernel_rfl
set_option maxRecDepth 100000 in
theorem plan_ok452 : bodyOk plans 452 Tryz.f452 = true := by kernel_rfl
set_option maxRecDepth 100000 in
theorem plan_ok453 : bodyOk plans 453 Tryz.f453 = true := by kernel_rfl
set_option maxRecDepth 100000 in
theorem plan_ok456 : bodyOk plans 456 Tryz.f456 = true := by kernel_rfl
set_option maxRecDepth 100000 in
theorem plan_ok458 : bodyOk plans 458 Tryz.f458 = true := by kernel_rfl
set_option maxRecDepth 100000 in
theorem plan_ok459 : bodyOk plans 459 Tryz.f459 = true := by kernel_rfl
set_option maxRecDepth 100000 in
theorem plan_ok463 : bodyOk plans 463 Tryz.f463 = true := by kernel_rfl
set_option maxRecDepth 100000 in
theorem plan_ok465 : bodyOk plans 465 Tryz.f465 = true := by kernel_rfl
set_option maxRecDepth 100000 in
theorem plan_ok466 : bodyOk plans 466 Tryz.f466 = true := by kernel_rfl
set_option maxRecDepth 100000 in
theorem plan_ok470 : bodyOk plans 470 Tryz.f470 = true := by kernel_rfl
set_option maxRecDepth 100000 in
theorem plan_ok472 : bodyOk plans 472 Tryz.f472 = true := by kernel_rfl
set_option maxRecDepth 100000 in
theorem plan_ok476 : bodyOk plans 476 Tryz.f476 = true := by kernel_rfl
set_option maxRecDepth 100000 in
theorem plan_ok477 : bodyOk plans 477 Tryz.f477 = true := by kernel_rfl
set_option maxRecDepth 100000 in
theorem plan_ok478 : bodyOk plans 478 Tryz.f478 = true := by kernel_rfl
set_option maxRecDepth 100000 in
theorem plan_ok479 : bodyOk plans 479 Tryz.f479 = true := by kernel_rfl
def planFs : List Nat := [3, 8, 10, 15, 18, 20, 22, 26, 27, 28, 38, 39, 40, 41, 42, 45, 46, 49, 51, 53, 55, 58, 60, 64, 69, 71, 74, 77, 78, 88, 89, 90, 91, 94, 95, 107, 109, 110, 112, 113, 117, 118, 119, 121, 122, 124, 125, 132, 133, 144, 146, 150, 152, 153, 154, 155, 156, 157, 158, 161, 164, 165, 166, 170, 173, 174, 178, 179, 183, 186, 187, 192, 193, 194, 196, 197, 199, 200, 204, 212, 214, 215, 216, 218, 219, 221, 236, 237, 241, 242, 249, 252, 254, 255, 259, 268, 270, 274, 276, 280, 281, 283, 285, 286, 291, 292, 293, 294, 295, 296, 297, 305, 306, 316, 318, 319, 323, 325, 326, 327, 329, 333, 334, 335, 336, 338, 343, 346, 347, 348, 349, 351, 354, 355, 358, 362, 363, 364, 371, 372, 373, 374, 375, 377, 378, 379, 381, 382, 383, 384, 385, 386, 387, 389, 390, 392, 393, 402, 403, 406, 410, 411, 442, 444, 445, 449, 452, 453, 456, 458, 459, 463, 465, 466, 470, 472, 476, 477, 478, 479]
set_option maxRecDepth 100000 in
theorem plans_rest : (Tryz.prog.funcs.toList.zipIdx.all fun x => planFs.contains x.2 || bodyOk plans x.2 x.1) = true := by kernel_rfl
theorem plans_lot0 : ∀ f ∈ ([3, 8, 10, 15, 18, 20, 22, 26, 27, 28, 38, 39, 40, 41, 42, 45, 46, 49, 51, 53, 55, 58, 60, 64, 69, 71, 74, 77, 78, 88, 89, 90, 91, 94, 95, 107, 109, 110, 112, 113] : List Nat), ∀ fn, Tryz.prog.funcs[f]? = some fn → bodyOk plans f fn = true := by
  refine List.forall_mem_cons.2 ⟨fun fn hf => ?_, ?_⟩
  · rw [Tryz.func3] at hf; cases hf; exact plan_ok3
  refine List.forall_mem_cons.2 ⟨fun fn hf => ?_, ?_⟩
  · rw [Tryz.func8] at hf; cases hf; exact plan_ok8
  refine List.forall_mem_cons.2 ⟨fun fn hf => ?_, ?_⟩
  · rw [Tryz.func10] at hf; cases hf; exact plan_ok10
  refine List.forall_mem_cons.2 ⟨fun fn hf => ?_, ?_⟩
  · rw [Tryz.func15] at hf; cases hf; exact plan_ok15
  refine List.forall_mem_cons.2 ⟨fun fn hf => ?_, ?_⟩
  · rw [Tryz.func18] at hf; cases hf; exact plan_ok18
  refine List.forall_mem_cons.2 ⟨fun fn hf => ?_, ?_⟩
  · rw [Tryz.func20] at hf; cases hf; exact plan_ok20
  refine List.forall_mem_cons.2 ⟨fun fn hf => ?_, ?_⟩
  · rw [Tryz.func22] at hf; cases hf; exact plan_ok22
  refine List.forall_mem_cons.2 ⟨fun fn hf => ?_, ?_⟩
  · rw [Tryz.func26] at hf; cases hf; exact plan_ok26
  refine List.forall_mem_cons.2 ⟨fun fn hf => ?_, ?_⟩
  · rw [Tryz.func27] at hf; cases hf; exact plan_ok27
  refine List.forall_mem_cons.2 ⟨fun fn hf => ?_, ?_⟩
  · rw [Tryz.func28] at hf; cases hf; exact plan_ok28
  refine List.forall_mem_cons.2 ⟨fun fn hf => ?_, ?_⟩
  · rw [Tryz.func38] at hf; cases hf; exact plan_ok38
  refine List.forall_mem_cons.2 ⟨fun fn hf => ?_, ?_⟩
  · rw [Tryz.func39] at hf; cases hf; exact plan_ok39
  refine List.forall_mem_cons.2 ⟨fun fn hf => ?_, ?_⟩
  · rw [Tryz.func40] at hf; cases hf; exact plan_ok40
  refine List.forall_mem_cons.2 ⟨fun fn hf => ?_, ?_⟩
  · rw [Tryz.func41] at hf; cases hf; exact plan_ok41
  refine List.forall_mem_cons.2 ⟨fun fn hf => ?_, ?_⟩
  · rw [Tryz.func42] at hf; cases hf; exact plan_ok42
  refine List.forall_mem_cons.2 ⟨fun fn hf => ?_, ?_⟩
  · rw [Tryz.func45] at hf; cases hf; exact plan_ok45
  refine List.forall_mem_cons.2 ⟨fun fn hf => ?_, ?_⟩
  · rw [Tryz.func46] at hf; cases hf; exact plan_ok46
  refine List.forall_mem_cons.2 ⟨fun fn hf => ?_, ?_⟩
  · rw [Tryz.func49] at hf; cases hf; exact plan_ok49
  refine List.forall_mem_cons.2 ⟨fun fn hf => ?_, ?_⟩
  · rw [Tryz.func51] at hf; cases hf; exact plan_ok51
  refine List.forall_mem_cons.2 ⟨fun fn hf => ?_, ?_⟩
  · rw [Tryz.func53] at hf; cases hf; exact plan_ok53
  refine List.forall_mem_cons.2 ⟨fun fn hf => ?_, ?_⟩
  · rw [Tryz.func55] at hf; cases hf; exact plan_ok55
  refine List.forall_mem_cons.2 ⟨fun fn hf => ?_, ?_⟩
  · rw [Tryz.func58] at hf; cases hf; exact plan_ok58
  refine List.forall_mem_cons.2 ⟨fun fn hf => ?_, ?_⟩
  · rw [Tryz.func60] at hf; cases hf; exact plan_ok60
  refine List.forall_mem_cons.2 ⟨fun fn hf => ?_, ?_⟩
  · rw [Tryz.func64] at hf; cases hf; exact plan_ok64
  refine List.forall_mem_cons.2 ⟨fun fn hf => ?_, ?_⟩
  · rw [Tryz.func69] at hf; cases hf; exact plan_ok69
  refine List.forall_mem_cons.2 ⟨fun fn hf => ?_, ?_⟩
  · rw [Tryz.func71] at hf; cases hf; exact plan_ok71
  refine List.forall_mem_cons.2 ⟨fun fn hf => ?_, ?_⟩
  · rw [Tryz.func74] at hf; cases hf; exact plan_ok74
  refine List.forall_mem_cons.2 ⟨fun fn hf => ?_, ?_⟩
  · rw [Tryz.func77] at hf; cases hf; exact plan_ok77
  refine List.forall_mem_cons.2 ⟨fun fn hf => ?_, ?_⟩
  · rw [Tryz.func78] at hf; cases hf; exact plan_ok78
  refine List.forall_mem_cons.2 ⟨fun fn hf => ?_, ?_⟩
  · rw [Tryz.func88] at hf; cases hf; exact plan_ok88
  refine List.forall_mem_cons.2 ⟨fun fn hf => ?_, ?_⟩
  · rw [Tryz.func89] at hf; cases hf; exact plan_ok89
  refine List.forall_mem_cons.2 ⟨fun fn hf => ?_, ?_⟩
  · rw [Tryz.func90] at hf; cases hf; exact plan_ok90
  refine List.forall_mem_cons.2 ⟨fun fn hf => ?_, ?_⟩
  · rw [Tryz.func91] at hf; cases hf; exact plan_ok91
  refine List.forall_mem_cons.2 ⟨fun fn hf => ?_, ?_⟩
  · rw [Tryz.func94] at hf; cases hf; exact plan_ok94
  refine List.forall_mem_cons.2 ⟨fun fn hf => ?_, ?_⟩
  · rw [Tryz.func95] at hf; cases hf; exact plan_ok95
  refine List.forall_mem_cons.2 ⟨fun fn hf => ?_, ?_⟩
  · rw [Tryz.func107] at hf; cases hf; exact plan_ok107
  refine List.forall_mem_cons.2 ⟨fun fn hf => ?_, ?_⟩
  · rw [Tryz.func109] at hf; cases hf; exact plan_ok109
  refine List.forall_mem_cons.2 ⟨fun fn hf => ?_, ?_⟩
  · rw [Tryz.func110] at hf; cases hf; exact plan_ok110
  refine List.forall_mem_cons.2 ⟨fun fn hf => ?_, ?_⟩
  · rw [Tryz.func112] at hf; cases hf; exact plan_ok112
  refine List.forall_mem_cons.2 ⟨fun fn hf => ?_, ?_⟩
  · rw [Tryz.func113] at hf; cases hf; exact plan_ok113
  exact fun x hx => by cases hx
theorem plans_lot1 : ∀ f ∈ ([117, 118, 119, 121, 122, 124, 125, 132, 133, 144, 146, 150, 152, 153, 154, 155, 156, 157, 158, 161, 164, 165, 166, 170, 173, 174, 178, 179, 183, 186, 187, 192, 193, 194, 196, 197, 199, 200, 204, 212] : List Nat), ∀ fn, Tryz.prog.funcs[f]? = some fn → bodyOk plans f fn = true := by
  refine List.forall_mem_cons.2 ⟨fun fn hf => ?_, ?_⟩
  · rw [Tryz.func117] at hf; cases hf; exact plan_ok117
  refine List.forall_mem_cons.2 ⟨fun fn hf => ?_, ?_⟩
  · rw [Tryz.func118] at hf; cases hf; exact plan_ok118
  refine List.forall_mem_cons.2 ⟨fun fn hf => ?_, ?_⟩
  · rw [Tryz.func119] at hf; cases hf; exact plan_ok119
  refine List.forall_mem_cons.2 ⟨fun fn hf => ?_, ?_⟩
  · rw [Tryz.func121] at hf; cases hf; exact plan_ok121
  refine List.forall_mem_cons.2 ⟨fun fn hf => ?_, ?_⟩
  · rw [Tryz.func122] at hf; cases hf; exact plan_ok122
  refine List.forall_mem_cons.2 ⟨fun fn hf => ?_, ?_⟩
  · rw [Tryz.func124] at hf; cases hf; exact plan_ok124
  refine List.forall_mem_cons.2 ⟨fun fn hf => ?_, ?_⟩
  · rw [Tryz.func125] at hf; cases hf; exact plan_ok125
  refine List.forall_mem_cons.2 ⟨fun fn hf => ?_, ?_⟩
  · rw [Tryz.func132] at hf; cases hf; exact plan_ok132
  refine List.forall_mem_cons.2 ⟨fun fn hf => ?_, ?_⟩
  · rw [Tryz.func133] at hf; cases hf; exact plan_ok133
  refine List.forall_mem_cons.2 ⟨fun fn hf => ?_, ?_⟩
  · rw [Tryz.func144] at hf; cases hf; exact plan_ok144
  refine List.forall_mem_cons.2 ⟨fun fn hf => ?_, ?_⟩
  · rw [Tryz.func146] at hf; cases hf; exact plan_ok146
  refine List.forall_mem_cons.2 ⟨fun fn hf => ?_, ?_⟩
  · rw [Tryz.func150] at hf; cases hf; exact plan_ok150
  refine List.forall_mem_cons.2 ⟨fun fn hf => ?_, ?_⟩
  · rw [Tryz.func152] at hf; cases hf; exact plan_ok152
  refine List.forall_mem_cons.2 ⟨fun fn hf => ?_, ?_⟩
  · rw [Tryz.func153] at hf; cases hf; exact plan_ok153
  refine List.forall_mem_cons.2 ⟨fun fn hf => ?_, ?_⟩
  · rw [Tryz.func154] at hf; cases hf; exact plan_ok154
  refine List.forall_mem_cons.2 ⟨fun fn hf => ?_, ?_⟩
  · rw [Tryz.func155] at hf; cases hf; exact plan_ok155
  refine List.forall_mem_cons.2 ⟨fun fn hf => ?_, ?_⟩
  · rw [Tryz.func156] at hf; cases hf; exact plan_ok156
  refine List.forall_mem_cons.2 ⟨fun fn hf => ?_, ?_⟩
  · rw [Tryz.func157] at hf; cases hf; exact plan_ok157
  refine List.forall_mem_cons.2 ⟨fun fn hf => ?_, ?_⟩
  · rw [Tryz.func158] at hf; cases hf; exact plan_ok158
  refine List.forall_mem_cons.2 ⟨fun fn hf => ?_, ?_⟩
  · rw [Tryz.func161] at hf; cases hf; exact plan_ok161
  refine List.forall_mem_cons.2 ⟨fun fn hf => ?_, ?_⟩
  · rw [Tryz.func164] at hf; cases hf; exact plan_ok164
  refine List.forall_mem_cons.2 ⟨fun fn hf => ?_, ?_⟩
  · rw [Tryz.func165] at hf; cases hf; exact plan_ok165
  refine List.forall_mem_cons.2 ⟨fun fn hf => ?_, ?_⟩
  · rw [Tryz.func166] at hf; cases hf; exact plan_ok166
  refine List.forall_mem_cons.2 ⟨fun fn hf => ?_, ?_⟩
  · rw [Tryz.func170] at hf; cases hf; exact plan_ok170
  refine List.forall_mem_cons.2 ⟨fun fn hf => ?_, ?_⟩
  · rw [Tryz.func173] at hf; cases hf; exact plan_ok173
  refine List.forall_mem_cons.2 ⟨fun fn hf => ?_, ?_⟩
  · rw [Tryz.func174] at hf; cases hf; exact plan_ok174
  refine List.forall_mem_cons.2 ⟨fun fn hf => ?_, ?_⟩
  · rw [Tryz.func178] at hf; cases hf; exact plan_ok178
  refine List.forall_mem_cons.2 ⟨fun fn hf => ?_, ?_⟩
  · rw [Tryz.func179] at hf; cases hf; exact plan_ok179
  refine List.forall_mem_cons.2 ⟨fun fn hf => ?_, ?_⟩
  · rw [Tryz.func183] at hf; cases hf; exact plan_ok183
  refine List.forall_mem_cons.2 ⟨fun fn hf => ?_, ?_⟩
  · rw [Tryz.func186] at hf; cases hf; exact plan_ok186
  refine List.forall_mem_cons.2 ⟨fun fn hf => ?_, ?_⟩
  · rw [Tryz.func187] at hf; cases hf; exact plan_ok187
  refine List.forall_mem_cons.2 ⟨fun fn hf => ?_, ?_⟩
  · rw [Tryz.func192] at hf; cases hf; exact plan_ok192
  refine List.forall_mem_cons.2 ⟨fun fn hf => ?_, ?_⟩
  · rw [Tryz.func193] at hf; cases hf; exact plan_ok193
  refine List.forall_mem_cons.2 ⟨fun fn hf => ?_, ?_⟩
  · rw [Tryz.func194] at hf; cases hf; exact plan_ok194
  refine List.forall_mem_cons.2 ⟨fun fn hf => ?_, ?_⟩
  · rw [Tryz.func196] at hf; cases hf; exact plan_ok196
  refine List.forall_mem_cons.2 ⟨fun fn hf => ?_, ?_⟩
  · rw [Tryz.func197] at hf; cases hf; exact plan_ok197
  refine List.forall_mem_cons.2 ⟨fun fn hf => ?_, ?_⟩
  · rw [Tryz.func199] at hf; cases hf; exact plan_ok199
  refine List.forall_mem_cons.2 ⟨fun fn hf => ?_, ?_⟩
  · rw [Tryz.func200] at hf; cases hf; exact plan_ok200
  refine List.forall_mem_cons.2 ⟨fun fn hf => ?_, ?_⟩
  · rw [Tryz.func204] at hf; cases hf; exact plan_ok204
  refine List.forall_mem_cons.2 ⟨fun fn hf => ?_, ?_⟩
  · rw [Tryz.func212] at hf; cases hf; exact plan_ok212
  exact fun x hx => by cases hx
theorem plans_lot2 : ∀ f ∈ ([214, 215, 216, 218, 219, 221, 236, 237, 241, 242, 249, 252, 254, 255, 259, 268, 270, 274, 276, 280, 281, 283, 285, 286, 291, 292, 293, 294, 295, 296, 297, 305, 306, 316, 318, 319, 323, 325, 326, 327] : List Nat), ∀ fn, Tryz.prog.funcs[f]? = some fn → bodyOk plans f fn = true := by
  refine List.forall_mem_cons.2 ⟨fun fn hf => ?_, ?_⟩
  · rw [Tryz.func214] at hf; cases hf; exact plan_ok214
  refine List.forall_mem_cons.2 ⟨fun fn hf => ?_, ?_⟩
  · rw [Tryz.func215] at hf; cases hf; exact plan_ok215
  refine List.forall_mem_cons.2 ⟨fun fn hf => ?_, ?_⟩
  · rw [Tryz.func216] at hf; cases hf; exact plan_ok216
  refine List.forall_mem_cons.2 ⟨fun fn hf => ?_, ?_⟩
  · rw [Tryz.func218] at hf; cases hf; exact plan_ok218
  refine List.forall_mem_cons.2 ⟨fun fn hf => ?_, ?_⟩
  · rw [Tryz.func219] at hf; cases hf; exact plan_ok219
  refine List.forall_mem_cons.2 ⟨fun fn hf => ?_, ?_⟩
  · rw [Tryz.func221] at hf; cases hf; exact plan_ok221
  refine List.forall_mem_cons.2 ⟨fun fn hf => ?_, ?_⟩
  · rw [Tryz.func236] at hf; cases hf; exact plan_ok236
  refine List.forall_mem_cons.2 ⟨fun fn hf => ?_, ?_⟩
  · rw [Tryz.func237] at hf; cases hf; exact plan_ok237
  refine List.forall_mem_cons.2 ⟨fun fn hf => ?_, ?_⟩
  · rw [Tryz.func241] at hf; cases hf; exact plan_ok241
  refine List.forall_mem_cons.2 ⟨fun fn hf => ?_, ?_⟩
  · rw [Tryz.func242] at hf; cases hf; exact plan_ok242
  refine List.forall_mem_cons.2 ⟨fun fn hf => ?_, ?_⟩
  · rw [Tryz.func249] at hf; cases hf; exact plan_ok249
  refine List.forall_mem_cons.2 ⟨fun fn hf => ?_, ?_⟩
  · rw [Tryz.func252] at hf; cases hf; exact plan_ok252
  refine List.forall_mem_cons.2 ⟨fun fn hf => ?_, ?_⟩
  · rw [Tryz.func254] at hf; cases hf; exact plan_ok254
  refine List.forall_mem_cons.2 ⟨fun fn hf => ?_, ?_⟩
  · rw [Tryz.func255] at hf; cases hf; exact plan_ok255
  refine List.forall_mem_cons.2 ⟨fun fn hf => ?_, ?_⟩
  · rw [Tryz.func259] at hf; cases hf; exact plan_ok259
  refine List.forall_mem_cons.2 ⟨fun fn hf => ?_, ?_⟩
  · rw [Tryz.func268] at hf; cases hf; exact plan_ok268
  refine List.forall_mem_cons.2 ⟨fun fn hf => ?_, ?_⟩
  · rw [Tryz.func270] at hf; cases hf; exact plan_ok270
  refine List.forall_mem_cons.2 ⟨fun fn hf => ?_, ?_⟩
  · rw [Tryz.func274] at hf; cases hf; exact plan_ok274
  refine List.forall_mem_cons.2 ⟨fun fn hf => ?_, ?_⟩
  · rw [Tryz.func276] at hf; cases hf; exact plan_ok276
  refine List.forall_mem_cons.2 ⟨fun fn hf => ?_, ?_⟩
  · rw [Tryz.func280] at hf; cases hf; exact plan_ok280
  refine List.forall_mem_cons.2 ⟨fun fn hf => ?_, ?_⟩
  · rw [Tryz.func281] at hf; cases hf; exact plan_ok281
  refine List.forall_mem_cons.2 ⟨fun fn hf => ?_, ?_⟩
  · rw [Tryz.func283] at hf; cases hf; exact plan_ok283
  refine List.forall_mem_cons.2 ⟨fun fn hf => ?_, ?_⟩
  · rw [Tryz.func285] at hf; cases hf; exact plan_ok285
  refine List.forall_mem_cons.2 ⟨fun fn hf => ?_, ?_⟩
  · rw [Tryz.func286] at hf; cases hf; exact plan_ok286
  refine List.forall_mem_cons.2 ⟨fun fn hf => ?_, ?_⟩
  · rw [Tryz.func291] at hf; cases hf; exact plan_ok291
  refine List.forall_mem_cons.2 ⟨fun fn hf => ?_, ?_⟩
  · rw [Tryz.func292] at hf; cases hf; exact plan_ok292
  refine List.forall_mem_cons.2 ⟨fun fn hf => ?_, ?_⟩
  · rw [Tryz.func293] at hf; cases hf; exact plan_ok293
  refine List.forall_mem_cons.2 ⟨fun fn hf => ?_, ?_⟩
  · rw [Tryz.func294] at hf; cases hf; exact plan_ok294
  refine List.forall_mem_cons.2 ⟨fun fn hf => ?_, ?_⟩
  · rw [Tryz.func295] at hf; cases hf; exact plan_ok295
  refine List.forall_mem_cons.2 ⟨fun fn hf => ?_, ?_⟩
  · rw [Tryz.func296] at hf; cases hf; exact plan_ok296
  refine List.forall_mem_cons.2 ⟨fun fn hf => ?_, ?_⟩
  · rw [Tryz.func297] at hf; cases hf; exact plan_ok297
  refine List.forall_mem_cons.2 ⟨fun fn hf => ?_, ?_⟩
  · rw [Tryz.func305] at hf; cases hf; exact plan_ok305
  refine List.forall_mem_cons.2 ⟨fun fn hf => ?_, ?_⟩
  · rw [Tryz.func306] at hf; cases hf; exact plan_ok306
  refine List.forall_mem_cons.2 ⟨fun fn hf => ?_, ?_⟩
  · rw [Tryz.func316] at hf; cases hf; exact plan_ok316
  refine List.forall_mem_cons.2 ⟨fun fn hf => ?_, ?_⟩
  · rw [Tryz.func318] at hf; cases hf; exact plan_ok318
  refine List.forall_mem_cons.2 ⟨fun fn hf => ?_, ?_⟩
  · rw [Tryz.func319] at hf; cases hf; exact plan_ok319
  refine List.forall_mem_cons.2 ⟨fun fn hf => ?_, ?_⟩
  · rw [Tryz.func323] at hf; cases hf; exact plan_ok323
  refine List.forall_mem_cons.2 ⟨fun fn hf => ?_, ?_⟩
  · rw [Tryz.func325] at hf; cases hf; exact plan_ok325
  refine List.forall_mem_cons.2 ⟨fun fn hf => ?_, ?_⟩
  · rw [Tryz.func326] at hf; cases hf; exact plan_ok326
  refine List.forall_mem_cons.2 ⟨fun fn hf => ?_, ?_⟩
  · rw [Tryz.func327] at hf; cases hf; exact plan_ok327
  exact fun x hx => by cases hx
theorem plans_lot3 : ∀ f ∈ ([329, 333, 334, 335, 336, 338, 343, 346, 347, 348, 349, 351, 354, 355, 358, 362, 363, 364, 371, 372, 373, 374, 375, 377, 378, 379, 381, 382, 383, 384, 385, 386, 387, 389, 390, 392, 393, 402, 403, 406] : List Nat), ∀ fn, Tryz.prog.funcs[f]? = some fn → bodyOk plans f fn = true := by
  refine List.forall_mem_cons.2 ⟨fun fn hf => ?_, ?_⟩
  · rw [Tryz.func329] at hf; cases hf; exact plan_ok329
  refine List.forall_mem_cons.2 ⟨fun fn hf => ?_, ?_⟩
  · rw [Tryz.func333] at hf; cases hf; exact plan_ok333
  refine List.forall_mem_cons.2 ⟨fun fn hf => ?_, ?_⟩
  · rw [Tryz.func334] at hf; cases hf; exact plan_ok334
  refine List.forall_mem_cons.2 ⟨fun fn hf => ?_, ?_⟩
  · rw [Tryz.func335] at hf; cases hf; exact plan_ok335
  refine List.forall_mem_cons.2 ⟨fun fn hf => ?_, ?_⟩
  · rw [Tryz.func336] at hf; cases hf; exact plan_ok336
  refine List.forall_mem_cons.2 ⟨fun fn hf => ?_, ?_⟩
  · rw [Tryz.func338] at hf; cases hf; exact plan_ok338
  refine List.forall_mem_cons.2 ⟨fun fn hf => ?_, ?_⟩
  · rw [Tryz.func343] at hf; cases hf; exact plan_ok343
  refine List.forall_mem_cons.2 ⟨fun fn hf => ?_, ?_⟩
  · rw [Tryz.func346] at hf; cases hf; exact plan_ok346
  refine List.forall_mem_cons.2 ⟨fun fn hf => ?_, ?_⟩
  · rw [Tryz.func347] at hf; cases hf; exact plan_ok347
  refine List.forall_mem_cons.2 ⟨fun fn hf => ?_, ?_⟩
  · rw [Tryz.func348] at hf; cases hf; exact plan_ok348
  refine List.forall_mem_cons.2 ⟨fun fn hf => ?_, ?_⟩
  · rw [Tryz.func349] at hf; cases hf; exact plan_ok349
  refine List.forall_mem_cons.2 ⟨fun fn hf => ?_, ?_⟩
  · rw [Tryz.func351] at hf; cases hf; exact plan_ok351
  refine List.forall_mem_cons.2 ⟨fun fn hf => ?_, ?_⟩
  · rw [Tryz.func354] at hf; cases hf; exact plan_ok354
  refine List.forall_mem_cons.2 ⟨fun fn hf => ?_, ?_⟩
  · rw [Tryz.func355] at hf; cases hf; exact plan_ok355
  refine List.forall_mem_cons.2 ⟨fun fn hf => ?_, ?_⟩
  · rw [Tryz.func358] at hf; cases hf; exact plan_ok358
  refine List.forall_mem_cons.2 ⟨fun fn hf => ?_, ?_⟩
  · rw [Tryz.func362] at hf; cases hf; exact plan_ok362
  refine List.forall_mem_cons.2 ⟨fun fn hf => ?_, ?_⟩
  · rw [Tryz.func363] at hf; cases hf; exact plan_ok363
  refine List.forall_mem_cons.2 ⟨fun fn hf => ?_, ?_⟩
  · rw [Tryz.func364] at hf; cases hf; exact plan_ok364
  refine List.forall_mem_cons.2 ⟨fun fn hf => ?_, ?_⟩
  · rw [Tryz.func371] at hf; cases hf; exact plan_ok371
  refine List.forall_mem_cons.2 ⟨fun fn hf => ?_, ?_⟩
  · rw [Tryz.func372] at hf; cases hf; exact plan_ok372
  refine List.forall_mem_cons.2 ⟨fun fn hf => ?_, ?_⟩
  · rw [Tryz.func373] at hf; cases hf; exact plan_ok373
  refine List.forall_mem_cons.2 ⟨fun fn hf => ?_, ?_⟩
  · rw [Tryz.func374] at hf; cases hf; exact plan_ok374
  refine List.forall_mem_cons.2 ⟨fun fn hf => ?_, ?_⟩
  · rw [Tryz.func375] at hf; cases hf; exact plan_ok375
  refine List.forall_mem_cons.2 ⟨fun fn hf => ?_, ?_⟩
  · rw [Tryz.func377] at hf; cases hf; exact plan_ok377
  refine List.forall_mem_cons.2 ⟨fun fn hf => ?_, ?_⟩
  · rw [Tryz.func378] at hf; cases hf; exact plan_ok378
  refine List.forall_mem_cons.2 ⟨fun fn hf => ?_, ?_⟩
  · rw [Tryz.func379] at hf; cases hf; exact plan_ok379
  refine List.forall_mem_cons.2 ⟨fun fn hf => ?_, ?_⟩
  · rw [Tryz.func381] at hf; cases hf; exact plan_ok381
  refine List.forall_mem_cons.2 ⟨fun fn hf => ?_, ?_⟩
  · rw [Tryz.func382] at hf; cases hf; exact plan_ok382
  refine List.forall_mem_cons.2 ⟨fun fn hf => ?_, ?_⟩
  · rw [Tryz.func383] at hf; cases hf; exact plan_ok383
  refine List.forall_mem_cons.2 ⟨fun fn hf => ?_, ?_⟩
  · rw [Tryz.func384] at hf; cases hf; exact plan_ok384
  refine List.forall_mem_cons.2 ⟨fun fn hf => ?_, ?_⟩
  · rw [Tryz.func385] at hf; cases hf; exact plan_ok385
  refine List.forall_mem_cons.2 ⟨fun fn hf => ?_, ?_⟩
  · rw [Tryz.func386] at hf; cases hf; exact plan_ok386
  refine List.forall_mem_cons.2 ⟨fun fn hf => ?_, ?_⟩
  · rw [Tryz.func387] at hf; cases hf; exact plan_ok387
  refine List.forall_mem_cons.2 ⟨fun fn hf => ?_, ?_⟩
  · rw [Tryz.func389] at hf; cases hf; exact plan_ok389
  refine List.forall_mem_cons.2 ⟨fun fn hf => ?_, ?_⟩
  · rw [Tryz.func390] at hf; cases hf; exact plan_ok390
  refine List.forall_mem_cons.2 ⟨fun fn hf => ?_, ?_⟩
  · rw [Tryz.func392] at hf; cases hf; exact plan_ok392
  refine List.forall_mem_cons.2 ⟨fun fn hf => ?_, ?_⟩
  · rw [Tryz.func393] at hf; cases hf; exact plan_ok393
  refine List.forall_mem_cons.2 ⟨fun fn hf => ?_, ?_⟩
  · rw [Tryz.func402] at hf; cases hf; exact plan_ok402
  refine List.forall_mem_cons.2 ⟨fun fn hf => ?_, ?_⟩
  · rw [Tryz.func403] at hf; cases hf; exact plan_ok403
  refine List.forall_mem_cons.2 ⟨fun fn hf => ?_, ?_⟩
  · rw [Tryz.func406] at hf; cases hf; exact plan_ok406
  exact fun x hx => by cases hx
theorem plans_lot4 : ∀ f ∈ ([410, 411, 442, 444, 445, 449, 452, 453, 456, 458, 459, 463, 465, 466, 470, 472, 476, 477, 478, 479] : List Nat), ∀ fn, Tryz.prog.funcs[f]? = some fn → bodyOk plans f fn = true := by
  refine List.forall_mem_cons.2 ⟨fun fn hf => ?_, ?_⟩
  · rw [Tryz.func410] at hf; cases hf; exact plan_ok410
  refine List.forall_mem_cons.2 ⟨fun fn hf => ?_, ?_⟩
  · rw [Tryz.func411] at hf; cases hf; exact plan_ok411
  refine List.forall_mem_cons.2 ⟨fun fn hf => ?_, ?_⟩
  · rw [Tryz.func442] at hf; cases hf; exact plan_ok442
  refine List.forall_mem_cons.2 ⟨fun fn hf => ?_, ?_⟩
  · rw [Tryz.func444] at hf; cases hf; exact plan_ok444
  refine List.forall_mem_cons.2 ⟨fun fn hf => ?_, ?_⟩
  · rw [Tryz.func445] at hf; cases hf; exact plan_ok445
  refine List.forall_mem_cons.2 ⟨fun fn hf => ?_, ?_⟩
  · rw [Tryz.func449] at hf; cases hf; exact plan_ok449
  refine List.forall_mem_cons.2 ⟨fun fn hf => ?_, ?_⟩
  · rw [Tryz.func452] at hf; cases hf; exact plan_ok452
  refine List.forall_mem_cons.2 ⟨fun fn hf => ?_, ?_⟩
  · rw [Tryz.func453] at hf; cases hf; exact plan_ok453
  refine List.forall_mem_cons.2 ⟨fun fn hf => ?_, ?_⟩
  · rw [Tryz.func456] at hf; cases hf; exact plan_ok456
  refine List.forall_mem_cons.2 ⟨fun fn hf => ?_, ?_⟩
  · rw [Tryz.func458] at hf; cases hf; exact plan_ok458
  refine List.forall_mem_cons.2 ⟨fun fn hf => ?_, ?_⟩
  · rw [Tryz.func459] at hf; cases hf; exact plan_ok459
  refine List.forall_mem_cons.2 ⟨fun fn hf => ?_, ?_⟩
  · rw [Tryz.func463] at hf; cases hf; exact plan_ok463
  refine List.forall_mem_cons.2 ⟨fun fn hf => ?_, ?_⟩
  · rw [Tryz.func465] at hf; cases hf; exact plan_ok465
  refine List.forall_mem_cons.2 ⟨fun fn hf => ?_, ?_⟩
  · rw [Tryz.func466] at hf; cases hf; exact plan_ok466
  refine List.forall_mem_cons.2 ⟨fun fn hf => ?_, ?_⟩
  · rw [Tryz.func470] at hf; cases hf; exact plan_ok470
  refine List.forall_mem_cons.2 ⟨fun fn hf => ?_, ?_⟩
  · rw [Tryz.func472] at hf; cases hf; exact plan_ok472
  refine List.forall_mem_cons.2 ⟨fun fn hf => ?_, ?_⟩
  · rw [Tryz.func476] at hf; cases hf; exact plan_ok476
  refine List.forall_mem_cons.2 ⟨fun fn hf => ?_, ?_⟩
  · rw [Tryz.func477] at hf; cases hf; exact plan_ok477
  refine List.forall_mem_cons.2 ⟨fun fn hf => ?_, ?_⟩
  · rw [Tryz.func478] at hf; cases hf; exact plan_ok478
  refine List.forall_mem_cons.2 ⟨fun fn hf => ?_, ?_⟩
  · rw [Tryz.func479] at hf; cases hf; exact plan_ok479
  exact fun x hx => by cases hx
theorem planFs_cut : planFs = [3, 8, 10, 15, 18, 20, 22, 26, 27, 28, 38, 39, 40, 41, 42, 45, 46, 49, 51, 53, 55, 58, 60, 64, 69, 71, 74, 77, 78, 88, 89, 90, 91, 94, 95, 107, 109, 110, 112, 113] ++ [117, 118, 119, 121, 122, 124, 125, 132, 133, 144, 146, 150, 152, 153, 154, 155, 156, 157, 158, 161, 164, 165, 166, 170, 173, 174, 178, 179, 183, 186, 187, 192, 193, 194, 196, 197, 199, 200, 204, 212] ++ [214, 215, 216, 218, 219, 221, 236, 237, 241, 242, 249, 252, 254, 255, 259, 268, 270, 274, 276, 280, 281, 283, 285, 286, 291, 292, 293, 294, 295, 296, 297, 305, 306, 316, 318, 319, 323, 325, 326, 327] ++ [329, 333, 334, 335, 336, 338, 343, 346, 347, 348, 349, 351, 354, 355, 358, 362, 363, 364, 371, 372, 373, 374, 375, 377, 378, 379, 381, 382, 383, 384, 385, 386, 387, 389, 390, 392, 393, 402, 403, 406] ++ [410, 411, 442, 444, 445, 449, 452, 453, 456, 458, 459, 463, 465, 466, 470, 472, 476, 477, 478, 479] := by kernel_rfl
theorem plans_ok : PlansOk Tryz.prog plans := by
  have key : ∀ f fn, Tryz.prog.funcs[f]? = some fn → bodyOk plans f fn = true := by
    intro f fn hf
    have h := List.all_eq_true.1 plans_rest (fn, f) (by rw [List.mem_zipIdx_iff_getElem?]; simpa using hf)
    simp only [Bool.or_eq_true] at h
    rcases h with h | h
    · have h := List.contains_iff_mem.1 h
      rw [planFs_cut] at h
      rcases List.mem_append.1 h with h | h
      rotate_left
      · exact plans_lot4 f h fn hf
      rcases List.mem_append.1 h with h | h
      rotate_left
      · exact plans_lot3 f h fn hf
      rcases List.mem_append.1 h with h | h
      rotate_left
      · exact plans_lot2 f h fn hf
      rcases List.mem_append.1 h with h | h
      rotate_left
      · exact plans_lot1 f h fn hf
      exact plans_lot0 f h fn hf
    · exact h
  refine ⟨fun f fn c hf hc => ?_, fun a ha => by cases ha⟩
  simpa [bodyOk, hc] using key f fn hf

end Go.Proofs.YtfomfboennjfoaaGreat

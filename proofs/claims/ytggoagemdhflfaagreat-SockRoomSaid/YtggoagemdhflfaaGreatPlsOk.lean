/-
  The plans serve every region that draws its order. Printed by plans.py.
-/
import Derived.Test.YtggoagemdhflfaaGreatSxs
import Derived.Test.YtggoagemdhflfaaGreatProg
import Derived.Test.YtggoagemdhflfaaGreatPls
set_option linter.unusedVariables false
set_option linter.unusedSimpArgs false
namespace Go.Proofs.YtggoagemdhflfaaGreat
open Go

theorem follows_mixed : Tryz.prog.follows .mixedOrders = true := by kernel_rfl
def bodyOk (pl : Plans) (f : FuncId) (fn : Func) : Bool := match fn.body with
  | some c => codeOk pl f c
  | none => true
set_option maxRecDepth 100000 in
theorem plan_ok3 : bodyOk plans 3 Tryz.f3 = true := by kernel_rfl
set_option maxRecDepth 100000 in
theorem plan_ok4 : bodyOk plans 4 Tryz.f4 = true := by kernel_rfl
set_option maxRecDepth 100000 in
theorem plan_ok7 : bodyOk plans 7 Tryz.f7 = true := by kernel_rfl
set_option maxRecDepth 100000 in
theorem plan_ok17 : bodyOk plans 17 Tryz.f17 = true := by kernel_rfl
set_option maxRecDepth 100000 in
theorem plan_ok18 : bodyOk plans 18 Tryz.f18 = true := by kernel_rfl
set_option maxRecDepth 100000 in
theorem plan_ok20 : bodyOk plans 20 Tryz.f20 = true := by kernel_rfl
set_option maxRecDepth 100000 in
theorem plan_ok23 : bodyOk plans 23 Tryz.f23 = true := by kernel_rfl
set_option maxRecDepth 100000 in
theorem plan_ok24 : bodyOk plans 24 Tryz.f24 = true := by kernel_rfl
set_option maxRecDepth 100000 in
theorem plan_ok31 : bodyOk plans 31 Tryz.f31 = true := by kernel_rfl
set_option maxRecDepth 100000 in
theorem plan_ok39 : bodyOk plans 39 Tryz.f39 = true := by kernel_rfl
set_option maxRecDepth 100000 in
theorem plan_ok40 : bodyOk plans 40 Tryz.f40 = true := by kernel_rfl
set_option maxRecDepth 100000 in
theorem plan_ok42 : bodyOk plans 42 Tryz.f42 = true := by kernel_rfl
set_option maxRecDepth 100000 in
theorem plan_ok44 : bodyOk plans 44 Tryz.f44 = true := by kernel_rfl
set_option maxRecDepth 100000 in
theorem plan_ok45 : bodyOk plans 45 Tryz.f45 = true := by kernel_rfl
set_option maxRecDepth 100000 in
theorem plan_ok46 : bodyOk plans 46 Tryz.f46 = true := by kernel_rfl
set_option maxRecDepth 100000 in
theorem plan_ok47 : bodyOk plans 47 Tryz.f47 = true := by kernel_rfl
set_option maxRecDepth 100000 in
theorem plan_ok48 : bodyOk plans 48 Tryz.f48 = true := by kernel_rfl
set_option maxRecDepth 100000 in
theorem plan_ok51 : bodyOk plans 51 Tryz.f51 = true := by kernel_rfl
set_option maxRecDepth 100000 in
theorem plan_ok52 : bodyOk plans 52 Tryz.f52 = true := by kernel_rfl
set_option maxRecDepth 100000 in
theorem plan_ok54 : bodyOk plans 54 Tryz.f54 = true := by kernel_rfl
set_option maxRecDepth 100000 in
theorem plan_ok56 : bodyOk plans 56 Tryz.f56 = true := by kernel_rfl
set_option maxRecDepth 100000 in
theorem plan_ok58 : bodyOk plans 58 Tryz.f58 = true := by kernel_rfl
set_option maxRecDepth 100000 in
theorem plan_ok77 : bodyOk plans 77 Tryz.f77 = true := by kernel_rfl
set_option maxRecDepth 100000 in
theorem plan_ok78 : bodyOk plans 78 Tryz.f78 = true := by kernel_rfl
set_option maxRecDepth 100000 in
theorem plan_ok81 : bodyOk plans 81 Tryz.f81 = true := by kernel_rfl
set_option maxRecDepth 100000 in
theorem plan_ok84 : bodyOk plans 84 Tryz.f84 = true := by kernel_rfl
set_option maxRecDepth 100000 in
theorem plan_ok86 : bodyOk plans 86 Tryz.f86 = true := by kernel_rfl
set_option maxRecDepth 100000 in
theorem plan_ok90 : bodyOk plans 90 Tryz.f90 = true := by kernel_rfl
set_option maxRecDepth 100000 in
theorem plan_ok92 : bodyOk plans 92 Tryz.f92 = true := by kernel_rfl
set_option maxRecDepth 100000 in
theorem plan_ok95 : bodyOk plans 95 Tryz.f95 = true := by kernel_rfl
set_option maxRecDepth 100000 in
theorem plan_ok98 : bodyOk plans 98 Tryz.f98 = true := by kernel_rfl
set_option maxRecDepth 100000 in
theorem plan_ok99 : bodyOk plans 99 Tryz.f99 = true := by kernel_rfl
set_option maxRecDepth 100000 in
theorem plan_ok109 : bodyOk plans 109 Tryz.f109 = true := by kernel_rfl
set_option maxRecDepth 100000 in
theorem plan_ok110 : bodyOk plans 110 Tryz.f110 = true := by kernel_rfl
set_option maxRecDepth 100000 in
theorem plan_ok111 : bodyOk plans 111 Tryz.f111 = true := by kernel_rfl
set_option maxRecDepth 100000 in
theorem plan_ok112 : bodyOk plans 112 Tryz.f112 = true := by kernel_rfl
set_option maxRecDepth 100000 in
theorem plan_ok115 : bodyOk plans 115 Tryz.f115 = true := by kernel_rfl
set_option maxRecDepth 100000 in
theorem plan_ok116 : bodyOk plans 116 Tryz.f116 = true := by kernel_rfl
set_option maxRecDepth 100000 in
theorem plan_ok117 : bodyOk plans 117 Tryz.f117 = true := by kernel_rfl
set_option maxRecDepth 100000 in
theorem plan_ok119 : bodyOk plans 119 Tryz.f119 = true := by kernel_rfl
set_option maxRecDepth 100000 in
theorem plan_ok120 : bodyOk plans 120 Tryz.f120 = true := by kernel_rfl
set_option maxRecDepth 100000 in
theorem plan_ok131 : bodyOk plans 131 Tryz.f131 = true := by kernel_rfl
set_option maxRecDepth 100000 in
theorem plan_ok139 : bodyOk plans 139 Tryz.f139 = true := by kernel_rfl
set_option maxRecDepth 100000 in
theorem plan_ok147 : bodyOk plans 147 Tryz.f147 = true := by kernel_rfl
set_option maxRecDepth 100000 in
theorem plan_ok149 : bodyOk plans 149 Tryz.f149 = true := by kernel_rfl
set_option maxRecDepth 100000 in
theorem plan_ok150 : bodyOk plans 150 Tryz.f150 = true := by kernel_rfl
set_option maxRecDepth 100000 in
theorem plan_ok151 : bodyOk plans 151 Tryz.f151 = true := by kernel_rfl
set_option maxRecDepth 100000 in
theorem plan_ok153 : bodyOk plans 153 Tryz.f153 = true := by kernel_rfl
set_option maxRecDepth 100000 in
theorem plan_ok154 : bodyOk plans 154 Tryz.f154 = true := by kernel_rfl
set_option maxRecDepth 100000 in
theorem plan_ok156 : bodyOk plans 156 Tryz.f156 = true := by kernel_rfl
set_option maxRecDepth 100000 in
theorem plan_ok158 : bodyOk plans 158 Tryz.f158 = true := by kernel_rfl
set_option maxRecDepth 100000 in
theorem plan_ok159 : bodyOk plans 159 Tryz.f159 = true := by kernel_rfl
set_option maxRecDepth 100000 in
theorem plan_ok162 : bodyOk plans 162 Tryz.f162 = true := by kernel_rfl
set_option maxRecDepth 100000 in
theorem plan_ok163 : bodyOk plans 163 Tryz.f163 = true := by kernel_rfl
set_option maxRecDepth 100000 in
theorem plan_ok164 : bodyOk plans 164 Tryz.f164 = true := by kernel_rfl
set_option maxRecDepth 100000 in
theorem plan_ok166 : bodyOk plans 166 Tryz.f166 = true := by kernel_rfl
set_option maxRecDepth 100000 in
theorem plan_ok167 : bodyOk plans 167 Tryz.f167 = true := by kernel_rfl
set_option maxRecDepth 100000 in
theorem plan_ok172 : bodyOk plans 172 Tryz.f172 = true := by kernel_rfl
set_option maxRecDepth 100000 in
theorem plan_ok173 : bodyOk plans 173 Tryz.f173 = true := by kernel_rfl
set_option maxRecDepth 100000 in
theorem plan_ok177 : bodyOk plans 177 Tryz.f177 = true := by kernel_rfl
set_option maxRecDepth 100000 in
theorem plan_ok179 : bodyOk plans 179 Tryz.f179 = true := by kernel_rfl
set_option maxRecDepth 100000 in
theorem plan_ok180 : bodyOk plans 180 Tryz.f180 = true := by kernel_rfl
set_option maxRecDepth 100000 in
theorem plan_ok181 : bodyOk plans 181 Tryz.f181 = true := by kernel_rfl
set_option maxRecDepth 100000 in
theorem plan_ok182 : bodyOk plans 182 Tryz.f182 = true := by kernel_rfl
set_option maxRecDepth 100000 in
theorem plan_ok183 : bodyOk plans 183 Tryz.f183 = true := by kernel_rfl
set_option maxRecDepth 100000 in
theorem plan_ok184 : bodyOk plans 184 Tryz.f184 = true := by kernel_rfl
set_option maxRecDepth 100000 in
theorem plan_ok185 : bodyOk plans 185 Tryz.f185 = true := by kernel_rfl
set_option maxRecDepth 100000 in
theorem plan_ok188 : bodyOk plans 188 Tryz.f188 = true := by kernel_rfl
set_option maxRecDepth 100000 in
theorem plan_ok191 : bodyOk plans 191 Tryz.f191 = true := by kernel_rfl
set_option maxRecDepth 100000 in
theorem plan_ok192 : bodyOk plans 192 Tryz.f192 = true := by kernel_rfl
set_option maxRecDepth 100000 in
theorem plan_ok193 : bodyOk plans 193 Tryz.f193 = true := by kernel_rfl
set_option maxRecDepth 100000 in
theorem plan_ok197 : bodyOk plans 197 Tryz.f197 = true := by kernel_rfl
set_option maxRecDepth 100000 in
theorem plan_ok200 : bodyOk plans 200 Tryz.f200 = true := by kernel_rfl
set_option maxRecDepth 100000 in
theorem plan_ok201 : bodyOk plans 201 Tryz.f201 = true := by kernel_rfl
set_option maxRecDepth 100000 in
theorem plan_ok202 : bodyOk plans 202 Tryz.f202 = true := by kernel_rfl
set_option maxRecDepth 100000 in
theorem plan_ok203 : bodyOk plans 203 Tryz.f203 = true := by kernel_rfl
set_option maxRecDepth 100000 in
theorem plan_ok205 : bodyOk plans 205 Tryz.f205 = true := by kernel_rfl
set_option maxRecDepth 100000 in
theorem plan_ok209 : bodyOk plans 209 Tryz.f209 = true := by kernel_rfl
set_option maxRecDepth 100000 in
theorem plan_ok211 : bodyOk plans 211 Tryz.f211 = true := by kernel_rfl
set_option maxRecDepth 100000 in
theorem plan_ok215 : bodyOk plans 215 Tryz.f215 = true := by kernel_rfl
set_option maxRecDepth 100000 in
theorem plan_ok216 : bodyOk plans 216 Tryz.f216 = true := by kernel_rfl
set_option maxRecDepth 100000 in
theorem plan_ok218 : bodyOk plans 218 Tryz.f218 = true := by kernel_rfl
set_option maxRecDepth 100000 in
theorem plan_ok220 : bodyOk plans 220 Tryz.f220 = true := by kernel_rfl
set_option maxRecDepth 100000 in
theorem plan_ok223 : bodyOk plans 223 Tryz.f223 = true := by kernel_rfl
set_option maxRecDepth 100000 in
theorem plan_ok224 : bodyOk plans 224 Tryz.f224 = true := by kernel_rfl
set_option maxRecDepth 100000 in
theorem plan_ok225 : bodyOk plans 225 Tryz.f225 = true := by kernel_rfl
set_option maxRecDepth 100000 in
theorem plan_ok227 : bodyOk plans 227 Tryz.f227 = true := by kernel_rfl
set_option maxRecDepth 100000 in
theorem plan_ok228 : bodyOk plans 228 Tryz.f228 = true := by kernel_rfl
set_option maxRecDepth 100000 in
theorem plan_ok230 : bodyOk plans 230 Tryz.f230 = true := by kernel_rfl
set_option maxRecDepth 100000 in
theorem plan_ok231 : bodyOk plans 231 Tryz.f231 = true := by kernel_rfl
set_option maxRecDepth 100000 in
theorem plan_ok234 : bodyOk plans 234 Tryz.f234 = true := by kernel_rfl
set_option maxRecDepth 100000 in
theorem plan_ok237 : bodyOk plans 237 Tryz.f237 = true := by kernel_rfl
set_option maxRecDepth 100000 in
theorem plan_ok238 : bodyOk plans 238 Tryz.f238 = true := by kernel_rfl
set_option maxRecDepth 100000 in
theorem plan_ok253 : bodyOk plans 253 Tryz.f253 = true := by kernel_rfl
set_option maxRecDepth 100000 in
theorem plan_ok254 : bodyOk plans 254 Tryz.f254 = true := by kernel_rfl
set_option maxRecDepth 100000 in
theorem plan_ok258 : bodyOk plans 258 Tryz.f258 = true := by kernel_rfl
set_option maxRecDepth 100000 in
theorem plan_ok259 : bodyOk plans 259 Tryz.f259 = true := by kernel_rfl
set_option maxRecDepth 100000 in
theorem plan_ok266 : bodyOk plans 266 Tryz.f266 = true := by kernel_rfl
set_option maxRecDepth 100000 in
theorem plan_ok269 : bodyOk plans 269 Tryz.f269 = true := by kernel_rfl
set_option maxRecDepth 100000 in
theorem plan_ok271 : bodyOk plans 271 Tryz.f271 = true := by kernel_rfl
set_option maxRecDepth 100000 in
theorem plan_ok272 : bodyOk plans 272 Tryz.f272 = true := by kernel_rfl
set_option maxRecDepth 100000 in
theorem plan_ok275 : bodyOk plans 275 Tryz.f275 = true := by kernel_rfl
set_option maxRecDepth 100000 in
theorem plan_ok276 : bodyOk plans 276 Tryz.f276 = true := by kernel_rfl
set_option maxRecDepth 100000 in
theorem plan_ok281 : bodyOk plans 281 Tryz.f281 = true := by kernel_rfl
set_option maxRecDepth 100000 in
theorem plan_ok283 : bodyOk plans 283 Tryz.f283 = true := by kernel_rfl
set_option maxRecDepth 100000 in
theorem plan_ok286 : bodyOk plans 286 Tryz.f286 = true := by kernel_rfl
set_option maxRecDepth 100000 in
theorem plan_ok296 : bodyOk plans 296 Tryz.f296 = true := by kernel_rfl
set_option maxRecDepth 100000 in
theorem plan_ok297 : bodyOk plans 297 Tryz.f297 = true := by kernel_rfl
set_option maxRecDepth 100000 in
theorem plan_ok298 : bodyOk plans 298 Tryz.f298 = true := by kernel_rfl
set_option maxRecDepth 100000 in
theorem plan_ok299 : bodyOk plans 299 Tryz.f299 = true := by kernel_rfl
set_option maxRecDepth 100000 in
theorem plan_ok300 : bodyOk plans 300 Tryz.f300 = true := by kernel_rfl
set_option maxRecDepth 100000 in
theorem plan_ok301 : bodyOk plans 301 Tryz.f301 = true := by kernel_rfl
set_option maxRecDepth 100000 in
theorem plan_ok302 : bodyOk plans 302 Tryz.f302 = true := by kernel_rfl
set_option maxRecDepth 100000 in
theorem plan_ok310 : bodyOk plans 310 Tryz.f310 = true := by kernel_rfl
set_option maxRecDepth 100000 in
theorem plan_ok311 : bodyOk plans 311 Tryz.f311 = true := by kernel_rfl
set_option maxRecDepth 100000 in
theorem plan_ok319 : bodyOk plans 319 Tryz.f319 = true := by kernel_rfl
set_option maxRecDepth 100000 in
theorem plan_ok320 : bodyOk plans 320 Tryz.f320 = true := by kernel_rfl
set_option maxRecDepth 100000 in
theorem plan_ok328 : bodyOk plans 328 Tryz.f328 = true := by kernel_rfl
set_option maxRecDepth 100000 in
theorem plan_ok329 : bodyOk plans 329 Tryz.f329 = true := by kernel_rfl
set_option maxRecDepth 100000 in
theorem plan_ok330 : bodyOk plans 330 Tryz.f330 = true := by kernel_rfl
set_option maxRecDepth 100000 in
theorem plan_ok332 : bodyOk plans 332 Tryz.f332 = true := by kernel_rfl
set_option maxRecDepth 100000 in
theorem plan_ok336 : bodyOk plans 336 Tryz.f336 = true := by kernel_rfl
set_option maxRecDepth 100000 in
theorem plan_ok337 : bodyOk plans 337 Tryz.f337 = true := by kernel_rfl
set_option maxRecDepth 100000 in
theorem plan_ok338 : bodyOk plans 338 Tryz.f338 = true := by kernel_rfl
set_option maxRecDepth 100000 in
theorem plan_ok339 : bodyOk plans 339 Tryz.f339 = true := by kernel_rfl
set_option maxRecDepth 100000 in
theorem plan_ok341 : bodyOk plans 341 Tryz.f341 = true := by kernel_rfl
set_option maxRecDepth 100000 in
theorem plan_ok346 : bodyOk plans 346 Tryz.f346 = true := by kernel_rfl
set_option maxRecDepth 100000 in
theorem plan_ok349 : bodyOk plans 349 Tryz.f349 = true := by kernel_rfl
set_option maxRecDepth 100000 in
theorem plan_ok350 : bodyOk plans 350 Tryz.f350 = true := by kernel_rfl
set_option maxRecDepth 100000 in
theorem plan_ok351 : bodyOk plans 351 Tryz.f351 = true := by kernel_rfl
set_option maxRecDepth 100000 in
theorem plan_ok352 : bodyOk plans 352 Tryz.f352 = true := by kernel_rfl
set_option maxRecDepth 100000 in
theorem plan_ok356 : bodyOk plans 356 Tryz.f356 = true := by kernel_rfl
set_option maxRecDepth 100000 in
theorem plan_ok357 : bodyOk plans 357 Tryz.f357 = true := by kernel_rfl
set_option maxRecDepth 100000 in
theorem plan_ok358 : bodyOk plans 358 Tryz.f358 = true := by kernel_rfl
set_option maxRecDepth 100000 in
theorem plan_ok359 : bodyOk plans 359 Tryz.f359 = true := by kernel_rfl
set_option maxRecDepth 100000 in
theorem plan_ok362 : bodyOk plans 362 Tryz.f362 = true := by kernel_rfl
set_option maxRecDepth 100000 in
theorem plan_ok363 : bodyOk plans 363 Tryz.f363 = true := by kernel_rfl
set_option maxRecDepth 100000 in
theorem plan_ok364 : bodyOk plans 364 Tryz.f364 = true := by kernel_rfl
set_option maxRecDepth 100000 in
theorem plan_ok373 : bodyOk plans 373 Tryz.f373 = true := by kernel_rfl
set_option maxRecDepth 100000 in
theorem plan_ok374 : bodyOk plans 374 Tryz.f374 = true := by kernel_rfl
set_option maxRecDepth 100000 in
theorem plan_ok375 : bodyOk plans 375 Tryz.f375 = true := by kernel_rfl
set_option maxRecDepth 100000 in
theorem plan_ok376 : bodyOk plans 376 Tryz.f376 = true := by kernel_rfl
set_option maxRecDepth 100000 in
theorem plan_ok377 : bodyOk plans 377 Tryz.f377 = true := by kernel_rfl
set_option maxRecDepth 100000 in
theorem plan_ok379 : bodyOk plans 379 Tryz.f379 = true := by kernel_rfl
set_option maxRecDepth 100000 in
theorem plan_ok380 : bodyOk plans 380 Tryz.f380 = true := by kernel_rfl
set_option maxRecDepth 100000 in
theorem plan_ok381 : bodyOk plans 381 Tryz.f381 = true := by kernel_rfl
set_option maxRecDepth 100000 in
theorem plan_ok383 : bodyOk plans 383 Tryz.f383 = true := by kernel_rfl
set_option maxRecDepth 100000 in
theorem plan_ok384 : bodyOk plans 384 Tryz.f384 = true := by kernel_rfl
set_option maxRecDepth 100000 in
theorem plan_ok385 : bodyOk plans 385 Tryz.f385 = true := by kernel_rfl
set_option maxRecDepth 100000 in
theorem plan_ok386 : bodyOk plans 386 Tryz.f386 = true := by kernel_rfl
set_option maxRecDepth 100000 in
theorem plan_ok388 : bodyOk plans 388 Tryz.f388 = true := by kernel_rfl
set_option maxRecDepth 100000 in
theorem plan_ok389 : bodyOk plans 389 Tryz.f389 = true := by kernel_rfl
set_option maxRecDepth 100000 in
theorem plan_ok390 : bodyOk plans 390 Tryz.f390 = true := by kernel_rfl
set_option maxRecDepth 100000 in
theorem plan_ok392 : bodyOk plans 392 Tryz.f392 = true := by kernel_rfl
set_option maxRecDepth 100000 in
theorem plan_ok393 : bodyOk plans 393 Tryz.f393 = true := by kernel_rfl
set_option maxRecDepth 100000 in
theorem plan_ok395 : bodyOk plans 395 Tryz.f395 = true := by kernel_rfl
set_option maxRecDepth 100000 in
theorem plan_ok396 : bodyOk plans 396 Tryz.f396 = true := by kernel_rfl
set_option maxRecDepth 100000 in
theorem plan_ok403 : bodyOk plans 403 Tryz.f403 = true := by kernel_rfl
set_option maxRecDepth 100000 in
theorem plan_ok404 : bodyOk plans 404 Tryz.f404 = true := by kernel_rfl
set_option maxRecDepth 100000 in
theorem plan_ok407 : bodyOk plans 407 Tryz.f407 = true := by kernel_rfl
set_option maxRecDepth 100000 in
theorem plan_ok411 : bodyOk plans 411 Tryz.f411 = true := by kernel_rfl
set_option maxRecDepth 100000 in
theorem plan_ok412 : bodyOk plans 412 Tryz.f412 = true := by kernel_rfl
set_option maxRecDepth 100000 in
theorem plan_ok435 : bodyOk plans 435 Tryz.f435 = true := by kernel_rfl
set_option maxRecDepth 100000 in
theorem plan_ok437 : bodyOk plans 437 Tryz.f437 = true := by kernel_rfl
set_option maxRecDepth 100000 in
theorem plan_ok438 : bodyOk plans 438 Tryz.f438 = true := by kernel_rfl
set_option maxRecDepth 100000 in
theorem plan_ok442 : bodyOk plans 442 Tryz.f442 = true := by kernel_rfl
set_option maxRecDepth 100000 in
theorem plan_ok445 : bodyOk plans 445 Tryz.f445 = true := by kernel_rfl
set_option maxRecDepth 100000 in
theorem plan_ok446 : bodyOk plans 446 Tryz.f446 = true := by kernel_rfl
set_option maxRecDepth 100000 in
theorem plan_ok449 : bodyOk plans 449 Tryz.f449 = true := by kernel_rfl
set_option maxRecDepth 100000 in
theorem plan_ok451 : bodyOk plans 451 Tryz.f451 = true := by kernel_rfl
set_option maxRecDepth 100000 in
theorem plan_ok452 : bodyOk plans 452 Tryz.f452 = true := by kernel_rfl
set_option maxRecDepth 100000 in
theorem plan_ok456 : bodyOk plans 456 Tryz.f456 = true := by kernel_rfl
set_option maxRecDepth 100000 in
theorem plan_ok458 : bodyOk plans 458 Tryz.f458 = true := by kernel_rfl
set_option maxRecDepth 100000 in
theorem plan_ok459 : bodyOk plans 459 Tryz.f459 = true := by kernel_rfl
set_option maxRecDepth 100000 in
theorem plan_ok463 : bodyOk plans 463 Tryz.f463 = true := by kernel_rfl
set_option maxRecDepth 100000 in
theorem plan_ok465 : bodyOk plans 465 Tryz.f465 = true := by kernel_rfl
set_option maxRecDepth 100000 in
theorem plan_ok469 : bodyOk plans 469 Tryz.f469 = true := by kernel_rfl
set_option maxRecDepth 100000 in
theorem plan_ok470 : bodyOk plans 470 Tryz.f470 = true := by kernel_rfl
set_option maxRecDepth 100000 in
theorem plan_ok471 : bodyOk plans 471 Tryz.f471 = true := by kernel_rfl
set_option maxRecDepth 100000 in
theorem plan_ok472 : bodyOk plans 472 Tryz.f472 = true := by kernel_rfl
def planFs : List Nat := [3, 4, 7, 17, 18, 20, 23, 24, 31, 39, 40, 42, 44, 45, 46, 47, 48, 51, 52, 54, 56, 58, 77, 78, 81, 84, 86, 90, 92, 95, 98, 99, 109, 110, 111, 112, 115, 116, 117, 119, 120, 131, 139, 147, 149, 150, 151, 153, 154, 156, 158, 159, 162, 163, 164, 166, 167, 172, 173, 177, 179, 180, 181, 182, 183, 184, 185, 188, 191, 192, 193, 197, 200, 201, 202, 203, 205, 209, 211, 215, 216, 218, 220, 223, 224, 225, 227, 228, 230, 231, 234, 237, 238, 253, 254, 258, 259, 266, 269, 271, 272, 275, 276, 281, 283, 286, 296, 297, 298, 299, 300, 301, 302, 310, 311, 319, 320, 328, 329, 330, 332, 336, 337, 338, 339, 341, 346, 349, 350, 351, 352, 356, 357, 358, 359, 362, 363, 364, 373, 374, 375, 376, 377, 379, 380, 381, 383, 384, 385, 386, 388, 389, 390, 392, 393, 395, 396, 403, 404, 407, 411, 412, 435, 437, 438, 442, 445, 446, 449, 451, 452, 456, 458, 459, 463, 465, 469, 470, 471, 472]
set_option maxRecDepth 100000 in
theorem plans_rest : (Tryz.prog.funcs.toList.zipIdx.all fun x => planFs.contains x.2 || bodyOk plans x.2 x.1) = true := by kernel_rfl
theorem plans_lot0 : ∀ f ∈ ([3, 4, 7, 17, 18, 20, 23, 24, 31, 39, 40, 42, 44, 45, 46, 47, 48, 51, 52, 54, 56, 58, 77, 78, 81, 84, 86, 90, 92, 95, 98, 99, 109, 110, 111, 112, 115, 116, 117, 119] : List Nat), ∀ fn, Tryz.prog.funcs[f]? = some fn → bodyOk plans f fn = true := by
  refine List.forall_mem_cons.2 ⟨fun fn hf => ?_, ?_⟩
  · rw [Tryz.func3] at hf; cases hf; exact plan_ok3
  refine List.forall_mem_cons.2 ⟨fun fn hf => ?_, ?_⟩
  · rw [Tryz.func4] at hf; cases hf; exact plan_ok4
  refine List.forall_mem_cons.2 ⟨fun fn hf => ?_, ?_⟩
  · rw [Tryz.func7] at hf; cases hf; exact plan_ok7
  refine List.forall_mem_cons.2 ⟨fun fn hf => ?_, ?_⟩
  · rw [Tryz.func17] at hf; cases hf; exact plan_ok17
  refine List.forall_mem_cons.2 ⟨fun fn hf => ?_, ?_⟩
  · rw [Tryz.func18] at hf; cases hf; exact plan_ok18
  refine List.forall_mem_cons.2 ⟨fun fn hf => ?_, ?_⟩
  · rw [Tryz.func20] at hf; cases hf; exact plan_ok20
  refine List.forall_mem_cons.2 ⟨fun fn hf => ?_, ?_⟩
  · rw [Tryz.func23] at hf; cases hf; exact plan_ok23
  refine List.forall_mem_cons.2 ⟨fun fn hf => ?_, ?_⟩
  · rw [Tryz.func24] at hf; cases hf; exact plan_ok24
  refine List.forall_mem_cons.2 ⟨fun fn hf => ?_, ?_⟩
  · rw [Tryz.func31] at hf; cases hf; exact plan_ok31
  refine List.forall_mem_cons.2 ⟨fun fn hf => ?_, ?_⟩
  · rw [Tryz.func39] at hf; cases hf; exact plan_ok39
  refine List.forall_mem_cons.2 ⟨fun fn hf => ?_, ?_⟩
  · rw [Tryz.func40] at hf; cases hf; exact plan_ok40
  refine List.forall_mem_cons.2 ⟨fun fn hf => ?_, ?_⟩
  · rw [Tryz.func42] at hf; cases hf; exact plan_ok42
  refine List.forall_mem_cons.2 ⟨fun fn hf => ?_, ?_⟩
  · rw [Tryz.func44] at hf; cases hf; exact plan_ok44
  refine List.forall_mem_cons.2 ⟨fun fn hf => ?_, ?_⟩
  · rw [Tryz.func45] at hf; cases hf; exact plan_ok45
  refine List.forall_mem_cons.2 ⟨fun fn hf => ?_, ?_⟩
  · rw [Tryz.func46] at hf; cases hf; exact plan_ok46
  refine List.forall_mem_cons.2 ⟨fun fn hf => ?_, ?_⟩
  · rw [Tryz.func47] at hf; cases hf; exact plan_ok47
  refine List.forall_mem_cons.2 ⟨fun fn hf => ?_, ?_⟩
  · rw [Tryz.func48] at hf; cases hf; exact plan_ok48
  refine List.forall_mem_cons.2 ⟨fun fn hf => ?_, ?_⟩
  · rw [Tryz.func51] at hf; cases hf; exact plan_ok51
  refine List.forall_mem_cons.2 ⟨fun fn hf => ?_, ?_⟩
  · rw [Tryz.func52] at hf; cases hf; exact plan_ok52
  refine List.forall_mem_cons.2 ⟨fun fn hf => ?_, ?_⟩
  · rw [Tryz.func54] at hf; cases hf; exact plan_ok54
  refine List.forall_mem_cons.2 ⟨fun fn hf => ?_, ?_⟩
  · rw [Tryz.func56] at hf; cases hf; exact plan_ok56
  refine List.forall_mem_cons.2 ⟨fun fn hf => ?_, ?_⟩
  · rw [Tryz.func58] at hf; cases hf; exact plan_ok58
  refine List.forall_mem_cons.2 ⟨fun fn hf => ?_, ?_⟩
  · rw [Tryz.func77] at hf; cases hf; exact plan_ok77
  refine List.forall_mem_cons.2 ⟨fun fn hf => ?_, ?_⟩
  · rw [Tryz.func78] at hf; cases hf; exact plan_ok78
  refine List.forall_mem_cons.2 ⟨fun fn hf => ?_, ?_⟩
  · rw [Tryz.func81] at hf; cases hf; exact plan_ok81
  refine List.forall_mem_cons.2 ⟨fun fn hf => ?_, ?_⟩
  · rw [Tryz.func84] at hf; cases hf; exact plan_ok84
  refine List.forall_mem_cons.2 ⟨fun fn hf => ?_, ?_⟩
  · rw [Tryz.func86] at hf; cases hf; exact plan_ok86
  refine List.forall_mem_cons.2 ⟨fun fn hf => ?_, ?_⟩
  · rw [Tryz.func90] at hf; cases hf; exact plan_ok90
  refine List.forall_mem_cons.2 ⟨fun fn hf => ?_, ?_⟩
  · rw [Tryz.func92] at hf; cases hf; exact plan_ok92
  refine List.forall_mem_cons.2 ⟨fun fn hf => ?_, ?_⟩
  · rw [Tryz.func95] at hf; cases hf; exact plan_ok95
  refine List.forall_mem_cons.2 ⟨fun fn hf => ?_, ?_⟩
  · rw [Tryz.func98] at hf; cases hf; exact plan_ok98
  refine List.forall_mem_cons.2 ⟨fun fn hf => ?_, ?_⟩
  · rw [Tryz.func99] at hf; cases hf; exact plan_ok99
  refine List.forall_mem_cons.2 ⟨fun fn hf => ?_, ?_⟩
  · rw [Tryz.func109] at hf; cases hf; exact plan_ok109
  refine List.forall_mem_cons.2 ⟨fun fn hf => ?_, ?_⟩
  · rw [Tryz.func110] at hf; cases hf; exact plan_ok110
  refine List.forall_mem_cons.2 ⟨fun fn hf => ?_, ?_⟩
  · rw [Tryz.func111] at hf; cases hf; exact plan_ok111
  refine List.forall_mem_cons.2 ⟨fun fn hf => ?_, ?_⟩
  · rw [Tryz.func112] at hf; cases hf; exact plan_ok112
  refine List.forall_mem_cons.2 ⟨fun fn hf => ?_, ?_⟩
  · rw [Tryz.func115] at hf; cases hf; exact plan_ok115
  refine List.forall_mem_cons.2 ⟨fun fn hf => ?_, ?_⟩
  · rw [Tryz.func116] at hf; cases hf; exact plan_ok116
  refine List.forall_mem_cons.2 ⟨fun fn hf => ?_, ?_⟩
  · rw [Tryz.func117] at hf; cases hf; exact plan_ok117
  refine List.forall_mem_cons.2 ⟨fun fn hf => ?_, ?_⟩
  · rw [Tryz.func119] at hf; cases hf; exact plan_ok119
  exact fun x hx => by cases hx
theorem plans_lot1 : ∀ f ∈ ([120, 131, 139, 147, 149, 150, 151, 153, 154, 156, 158, 159, 162, 163, 164, 166, 167, 172, 173, 177, 179, 180, 181, 182, 183, 184, 185, 188, 191, 192, 193, 197, 200, 201, 202, 203, 205, 209, 211, 215] : List Nat), ∀ fn, Tryz.prog.funcs[f]? = some fn → bodyOk plans f fn = true := by
  refine List.forall_mem_cons.2 ⟨fun fn hf => ?_, ?_⟩
  · rw [Tryz.func120] at hf; cases hf; exact plan_ok120
  refine List.forall_mem_cons.2 ⟨fun fn hf => ?_, ?_⟩
  · rw [Tryz.func131] at hf; cases hf; exact plan_ok131
  refine List.forall_mem_cons.2 ⟨fun fn hf => ?_, ?_⟩
  · rw [Tryz.func139] at hf; cases hf; exact plan_ok139
  refine List.forall_mem_cons.2 ⟨fun fn hf => ?_, ?_⟩
  · rw [Tryz.func147] at hf; cases hf; exact plan_ok147
  refine List.forall_mem_cons.2 ⟨fun fn hf => ?_, ?_⟩
  · rw [Tryz.func149] at hf; cases hf; exact plan_ok149
  refine List.forall_mem_cons.2 ⟨fun fn hf => ?_, ?_⟩
  · rw [Tryz.func150] at hf; cases hf; exact plan_ok150
  refine List.forall_mem_cons.2 ⟨fun fn hf => ?_, ?_⟩
  · rw [Tryz.func151] at hf; cases hf; exact plan_ok151
  refine List.forall_mem_cons.2 ⟨fun fn hf => ?_, ?_⟩
  · rw [Tryz.func153] at hf; cases hf; exact plan_ok153
  refine List.forall_mem_cons.2 ⟨fun fn hf => ?_, ?_⟩
  · rw [Tryz.func154] at hf; cases hf; exact plan_ok154
  refine List.forall_mem_cons.2 ⟨fun fn hf => ?_, ?_⟩
  · rw [Tryz.func156] at hf; cases hf; exact plan_ok156
  refine List.forall_mem_cons.2 ⟨fun fn hf => ?_, ?_⟩
  · rw [Tryz.func158] at hf; cases hf; exact plan_ok158
  refine List.forall_mem_cons.2 ⟨fun fn hf => ?_, ?_⟩
  · rw [Tryz.func159] at hf; cases hf; exact plan_ok159
  refine List.forall_mem_cons.2 ⟨fun fn hf => ?_, ?_⟩
  · rw [Tryz.func162] at hf; cases hf; exact plan_ok162
  refine List.forall_mem_cons.2 ⟨fun fn hf => ?_, ?_⟩
  · rw [Tryz.func163] at hf; cases hf; exact plan_ok163
  refine List.forall_mem_cons.2 ⟨fun fn hf => ?_, ?_⟩
  · rw [Tryz.func164] at hf; cases hf; exact plan_ok164
  refine List.forall_mem_cons.2 ⟨fun fn hf => ?_, ?_⟩
  · rw [Tryz.func166] at hf; cases hf; exact plan_ok166
  refine List.forall_mem_cons.2 ⟨fun fn hf => ?_, ?_⟩
  · rw [Tryz.func167] at hf; cases hf; exact plan_ok167
  refine List.forall_mem_cons.2 ⟨fun fn hf => ?_, ?_⟩
  · rw [Tryz.func172] at hf; cases hf; exact plan_ok172
  refine List.forall_mem_cons.2 ⟨fun fn hf => ?_, ?_⟩
  · rw [Tryz.func173] at hf; cases hf; exact plan_ok173
  refine List.forall_mem_cons.2 ⟨fun fn hf => ?_, ?_⟩
  · rw [Tryz.func177] at hf; cases hf; exact plan_ok177
  refine List.forall_mem_cons.2 ⟨fun fn hf => ?_, ?_⟩
  · rw [Tryz.func179] at hf; cases hf; exact plan_ok179
  refine List.forall_mem_cons.2 ⟨fun fn hf => ?_, ?_⟩
  · rw [Tryz.func180] at hf; cases hf; exact plan_ok180
  refine List.forall_mem_cons.2 ⟨fun fn hf => ?_, ?_⟩
  · rw [Tryz.func181] at hf; cases hf; exact plan_ok181
  refine List.forall_mem_cons.2 ⟨fun fn hf => ?_, ?_⟩
  · rw [Tryz.func182] at hf; cases hf; exact plan_ok182
  refine List.forall_mem_cons.2 ⟨fun fn hf => ?_, ?_⟩
  · rw [Tryz.func183] at hf; cases hf; exact plan_ok183
  refine List.forall_mem_cons.2 ⟨fun fn hf => ?_, ?_⟩
  · rw [Tryz.func184] at hf; cases hf; exact plan_ok184
  refine List.forall_mem_cons.2 ⟨fun fn hf => ?_, ?_⟩
  · rw [Tryz.func185] at hf; cases hf; exact plan_ok185
  refine List.forall_mem_cons.2 ⟨fun fn hf => ?_, ?_⟩
  · rw [Tryz.func188] at hf; cases hf; exact plan_ok188
  refine List.forall_mem_cons.2 ⟨fun fn hf => ?_, ?_⟩
  · rw [Tryz.func191] at hf; cases hf; exact plan_ok191
  refine List.forall_mem_cons.2 ⟨fun fn hf => ?_, ?_⟩
  · rw [Tryz.func192] at hf; cases hf; exact plan_ok192
  refine List.forall_mem_cons.2 ⟨fun fn hf => ?_, ?_⟩
  · rw [Tryz.func193] at hf; cases hf; exact plan_ok193
  refine List.forall_mem_cons.2 ⟨fun fn hf => ?_, ?_⟩
  · rw [Tryz.func197] at hf; cases hf; exact plan_ok197
  refine List.forall_mem_cons.2 ⟨fun fn hf => ?_, ?_⟩
  · rw [Tryz.func200] at hf; cases hf; exact plan_ok200
  refine List.forall_mem_cons.2 ⟨fun fn hf => ?_, ?_⟩
  · rw [Tryz.func201] at hf; cases hf; exact plan_ok201
  refine List.forall_mem_cons.2 ⟨fun fn hf => ?_, ?_⟩
  · rw [Tryz.func202] at hf; cases hf; exact plan_ok202
  refine List.forall_mem_cons.2 ⟨fun fn hf => ?_, ?_⟩
  · rw [Tryz.func203] at hf; cases hf; exact plan_ok203
  refine List.forall_mem_cons.2 ⟨fun fn hf => ?_, ?_⟩
  · rw [Tryz.func205] at hf; cases hf; exact plan_ok205
  refine List.forall_mem_cons.2 ⟨fun fn hf => ?_, ?_⟩
  · rw [Tryz.func209] at hf; cases hf; exact plan_ok209
  refine List.forall_mem_cons.2 ⟨fun fn hf => ?_, ?_⟩
  · rw [Tryz.func211] at hf; cases hf; exact plan_ok211
  refine List.forall_mem_cons.2 ⟨fun fn hf => ?_, ?_⟩
  · rw [Tryz.func215] at hf; cases hf; exact plan_ok215
  exact fun x hx => by cases hx
theorem plans_lot2 : ∀ f ∈ ([216, 218, 220, 223, 224, 225, 227, 228, 230, 231, 234, 237, 238, 253, 254, 258, 259, 266, 269, 271, 272, 275, 276, 281, 283, 286, 296, 297, 298, 299, 300, 301, 302, 310, 311, 319, 320, 328, 329, 330] : List Nat), ∀ fn, Tryz.prog.funcs[f]? = some fn → bodyOk plans f fn = true := by
  refine List.forall_mem_cons.2 ⟨fun fn hf => ?_, ?_⟩
  · rw [Tryz.func216] at hf; cases hf; exact plan_ok216
  refine List.forall_mem_cons.2 ⟨fun fn hf => ?_, ?_⟩
  · rw [Tryz.func218] at hf; cases hf; exact plan_ok218
  refine List.forall_mem_cons.2 ⟨fun fn hf => ?_, ?_⟩
  · rw [Tryz.func220] at hf; cases hf; exact plan_ok220
  refine List.forall_mem_cons.2 ⟨fun fn hf => ?_, ?_⟩
  · rw [Tryz.func223] at hf; cases hf; exact plan_ok223
  refine List.forall_mem_cons.2 ⟨fun fn hf => ?_, ?_⟩
  · rw [Tryz.func224] at hf; cases hf; exact plan_ok224
  refine List.forall_mem_cons.2 ⟨fun fn hf => ?_, ?_⟩
  · rw [Tryz.func225] at hf; cases hf; exact plan_ok225
  refine List.forall_mem_cons.2 ⟨fun fn hf => ?_, ?_⟩
  · rw [Tryz.func227] at hf; cases hf; exact plan_ok227
  refine List.forall_mem_cons.2 ⟨fun fn hf => ?_, ?_⟩
  · rw [Tryz.func228] at hf; cases hf; exact plan_ok228
  refine List.forall_mem_cons.2 ⟨fun fn hf => ?_, ?_⟩
  · rw [Tryz.func230] at hf; cases hf; exact plan_ok230
  refine List.forall_mem_cons.2 ⟨fun fn hf => ?_, ?_⟩
  · rw [Tryz.func231] at hf; cases hf; exact plan_ok231
  refine List.forall_mem_cons.2 ⟨fun fn hf => ?_, ?_⟩
  · rw [Tryz.func234] at hf; cases hf; exact plan_ok234
  refine List.forall_mem_cons.2 ⟨fun fn hf => ?_, ?_⟩
  · rw [Tryz.func237] at hf; cases hf; exact plan_ok237
  refine List.forall_mem_cons.2 ⟨fun fn hf => ?_, ?_⟩
  · rw [Tryz.func238] at hf; cases hf; exact plan_ok238
  refine List.forall_mem_cons.2 ⟨fun fn hf => ?_, ?_⟩
  · rw [Tryz.func253] at hf; cases hf; exact plan_ok253
  refine List.forall_mem_cons.2 ⟨fun fn hf => ?_, ?_⟩
  · rw [Tryz.func254] at hf; cases hf; exact plan_ok254
  refine List.forall_mem_cons.2 ⟨fun fn hf => ?_, ?_⟩
  · rw [Tryz.func258] at hf; cases hf; exact plan_ok258
  refine List.forall_mem_cons.2 ⟨fun fn hf => ?_, ?_⟩
  · rw [Tryz.func259] at hf; cases hf; exact plan_ok259
  refine List.forall_mem_cons.2 ⟨fun fn hf => ?_, ?_⟩
  · rw [Tryz.func266] at hf; cases hf; exact plan_ok266
  refine List.forall_mem_cons.2 ⟨fun fn hf => ?_, ?_⟩
  · rw [Tryz.func269] at hf; cases hf; exact plan_ok269
  refine List.forall_mem_cons.2 ⟨fun fn hf => ?_, ?_⟩
  · rw [Tryz.func271] at hf; cases hf; exact plan_ok271
  refine List.forall_mem_cons.2 ⟨fun fn hf => ?_, ?_⟩
  · rw [Tryz.func272] at hf; cases hf; exact plan_ok272
  refine List.forall_mem_cons.2 ⟨fun fn hf => ?_, ?_⟩
  · rw [Tryz.func275] at hf; cases hf; exact plan_ok275
  refine List.forall_mem_cons.2 ⟨fun fn hf => ?_, ?_⟩
  · rw [Tryz.func276] at hf; cases hf; exact plan_ok276
  refine List.forall_mem_cons.2 ⟨fun fn hf => ?_, ?_⟩
  · rw [Tryz.func281] at hf; cases hf; exact plan_ok281
  refine List.forall_mem_cons.2 ⟨fun fn hf => ?_, ?_⟩
  · rw [Tryz.func283] at hf; cases hf; exact plan_ok283
  refine List.forall_mem_cons.2 ⟨fun fn hf => ?_, ?_⟩
  · rw [Tryz.func286] at hf; cases hf; exact plan_ok286
  refine List.forall_mem_cons.2 ⟨fun fn hf => ?_, ?_⟩
  · rw [Tryz.func296] at hf; cases hf; exact plan_ok296
  refine List.forall_mem_cons.2 ⟨fun fn hf => ?_, ?_⟩
  · rw [Tryz.func297] at hf; cases hf; exact plan_ok297
  refine List.forall_mem_cons.2 ⟨fun fn hf => ?_, ?_⟩
  · rw [Tryz.func298] at hf; cases hf; exact plan_ok298
  refine List.forall_mem_cons.2 ⟨fun fn hf => ?_, ?_⟩
  · rw [Tryz.func299] at hf; cases hf; exact plan_ok299
  refine List.forall_mem_cons.2 ⟨fun fn hf => ?_, ?_⟩
  · rw [Tryz.func300] at hf; cases hf; exact plan_ok300
  refine List.forall_mem_cons.2 ⟨fun fn hf => ?_, ?_⟩
  · rw [Tryz.func301] at hf; cases hf; exact plan_ok301
  refine List.forall_mem_cons.2 ⟨fun fn hf => ?_, ?_⟩
  · rw [Tryz.func302] at hf; cases hf; exact plan_ok302
  refine List.forall_mem_cons.2 ⟨fun fn hf => ?_, ?_⟩
  · rw [Tryz.func310] at hf; cases hf; exact plan_ok310
  refine List.forall_mem_cons.2 ⟨fun fn hf => ?_, ?_⟩
  · rw [Tryz.func311] at hf; cases hf; exact plan_ok311
  refine List.forall_mem_cons.2 ⟨fun fn hf => ?_, ?_⟩
  · rw [Tryz.func319] at hf; cases hf; exact plan_ok319
  refine List.forall_mem_cons.2 ⟨fun fn hf => ?_, ?_⟩
  · rw [Tryz.func320] at hf; cases hf; exact plan_ok320
  refine List.forall_mem_cons.2 ⟨fun fn hf => ?_, ?_⟩
  · rw [Tryz.func328] at hf; cases hf; exact plan_ok328
  refine List.forall_mem_cons.2 ⟨fun fn hf => ?_, ?_⟩
  · rw [Tryz.func329] at hf; cases hf; exact plan_ok329
  refine List.forall_mem_cons.2 ⟨fun fn hf => ?_, ?_⟩
  · rw [Tryz.func330] at hf; cases hf; exact plan_ok330
  exact fun x hx => by cases hx
theorem plans_lot3 : ∀ f ∈ ([332, 336, 337, 338, 339, 341, 346, 349, 350, 351, 352, 356, 357, 358, 359, 362, 363, 364, 373, 374, 375, 376, 377, 379, 380, 381, 383, 384, 385, 386, 388, 389, 390, 392, 393, 395, 396, 403, 404, 407] : List Nat), ∀ fn, Tryz.prog.funcs[f]? = some fn → bodyOk plans f fn = true := by
  refine List.forall_mem_cons.2 ⟨fun fn hf => ?_, ?_⟩
  · rw [Tryz.func332] at hf; cases hf; exact plan_ok332
  refine List.forall_mem_cons.2 ⟨fun fn hf => ?_, ?_⟩
  · rw [Tryz.func336] at hf; cases hf; exact plan_ok336
  refine List.forall_mem_cons.2 ⟨fun fn hf => ?_, ?_⟩
  · rw [Tryz.func337] at hf; cases hf; exact plan_ok337
  refine List.forall_mem_cons.2 ⟨fun fn hf => ?_, ?_⟩
  · rw [Tryz.func338] at hf; cases hf; exact plan_ok338
  refine List.forall_mem_cons.2 ⟨fun fn hf => ?_, ?_⟩
  · rw [Tryz.func339] at hf; cases hf; exact plan_ok339
  refine List.forall_mem_cons.2 ⟨fun fn hf => ?_, ?_⟩
  · rw [Tryz.func341] at hf; cases hf; exact plan_ok341
  refine List.forall_mem_cons.2 ⟨fun fn hf => ?_, ?_⟩
  · rw [Tryz.func346] at hf; cases hf; exact plan_ok346
  refine List.forall_mem_cons.2 ⟨fun fn hf => ?_, ?_⟩
  · rw [Tryz.func349] at hf; cases hf; exact plan_ok349
  refine List.forall_mem_cons.2 ⟨fun fn hf => ?_, ?_⟩
  · rw [Tryz.func350] at hf; cases hf; exact plan_ok350
  refine List.forall_mem_cons.2 ⟨fun fn hf => ?_, ?_⟩
  · rw [Tryz.func351] at hf; cases hf; exact plan_ok351
  refine List.forall_mem_cons.2 ⟨fun fn hf => ?_, ?_⟩
  · rw [Tryz.func352] at hf; cases hf; exact plan_ok352
  refine List.forall_mem_cons.2 ⟨fun fn hf => ?_, ?_⟩
  · rw [Tryz.func356] at hf; cases hf; exact plan_ok356
  refine List.forall_mem_cons.2 ⟨fun fn hf => ?_, ?_⟩
  · rw [Tryz.func357] at hf; cases hf; exact plan_ok357
  refine List.forall_mem_cons.2 ⟨fun fn hf => ?_, ?_⟩
  · rw [Tryz.func358] at hf; cases hf; exact plan_ok358
  refine List.forall_mem_cons.2 ⟨fun fn hf => ?_, ?_⟩
  · rw [Tryz.func359] at hf; cases hf; exact plan_ok359
  refine List.forall_mem_cons.2 ⟨fun fn hf => ?_, ?_⟩
  · rw [Tryz.func362] at hf; cases hf; exact plan_ok362
  refine List.forall_mem_cons.2 ⟨fun fn hf => ?_, ?_⟩
  · rw [Tryz.func363] at hf; cases hf; exact plan_ok363
  refine List.forall_mem_cons.2 ⟨fun fn hf => ?_, ?_⟩
  · rw [Tryz.func364] at hf; cases hf; exact plan_ok364
  refine List.forall_mem_cons.2 ⟨fun fn hf => ?_, ?_⟩
  · rw [Tryz.func373] at hf; cases hf; exact plan_ok373
  refine List.forall_mem_cons.2 ⟨fun fn hf => ?_, ?_⟩
  · rw [Tryz.func374] at hf; cases hf; exact plan_ok374
  refine List.forall_mem_cons.2 ⟨fun fn hf => ?_, ?_⟩
  · rw [Tryz.func375] at hf; cases hf; exact plan_ok375
  refine List.forall_mem_cons.2 ⟨fun fn hf => ?_, ?_⟩
  · rw [Tryz.func376] at hf; cases hf; exact plan_ok376
  refine List.forall_mem_cons.2 ⟨fun fn hf => ?_, ?_⟩
  · rw [Tryz.func377] at hf; cases hf; exact plan_ok377
  refine List.forall_mem_cons.2 ⟨fun fn hf => ?_, ?_⟩
  · rw [Tryz.func379] at hf; cases hf; exact plan_ok379
  refine List.forall_mem_cons.2 ⟨fun fn hf => ?_, ?_⟩
  · rw [Tryz.func380] at hf; cases hf; exact plan_ok380
  refine List.forall_mem_cons.2 ⟨fun fn hf => ?_, ?_⟩
  · rw [Tryz.func381] at hf; cases hf; exact plan_ok381
  refine List.forall_mem_cons.2 ⟨fun fn hf => ?_, ?_⟩
  · rw [Tryz.func383] at hf; cases hf; exact plan_ok383
  refine List.forall_mem_cons.2 ⟨fun fn hf => ?_, ?_⟩
  · rw [Tryz.func384] at hf; cases hf; exact plan_ok384
  refine List.forall_mem_cons.2 ⟨fun fn hf => ?_, ?_⟩
  · rw [Tryz.func385] at hf; cases hf; exact plan_ok385
  refine List.forall_mem_cons.2 ⟨fun fn hf => ?_, ?_⟩
  · rw [Tryz.func386] at hf; cases hf; exact plan_ok386
  refine List.forall_mem_cons.2 ⟨fun fn hf => ?_, ?_⟩
  · rw [Tryz.func388] at hf; cases hf; exact plan_ok388
  refine List.forall_mem_cons.2 ⟨fun fn hf => ?_, ?_⟩
  · rw [Tryz.func389] at hf; cases hf; exact plan_ok389
  refine List.forall_mem_cons.2 ⟨fun fn hf => ?_, ?_⟩
  · rw [Tryz.func390] at hf; cases hf; exact plan_ok390
  refine List.forall_mem_cons.2 ⟨fun fn hf => ?_, ?_⟩
  · rw [Tryz.func392] at hf; cases hf; exact plan_ok392
  refine List.forall_mem_cons.2 ⟨fun fn hf => ?_, ?_⟩
  · rw [Tryz.func393] at hf; cases hf; exact plan_ok393
  refine List.forall_mem_cons.2 ⟨fun fn hf => ?_, ?_⟩
  · rw [Tryz.func395] at hf; cases hf; exact plan_ok395
  refine List.forall_mem_cons.2 ⟨fun fn hf => ?_, ?_⟩
  · rw [Tryz.func396] at hf; cases hf; exact plan_ok396
  refine List.forall_mem_cons.2 ⟨fun fn hf => ?_, ?_⟩
  · rw [Tryz.func403] at hf; cases hf; exact plan_ok403
  refine List.forall_mem_cons.2 ⟨fun fn hf => ?_, ?_⟩
  · rw [Tryz.func404] at hf; cases hf; exact plan_ok404
  refine List.forall_mem_cons.2 ⟨fun fn hf => ?_, ?_⟩
  · rw [Tryz.func407] at hf; cases hf; exact plan_ok407
  exact fun x hx => by cases hx
theorem plans_lot4 : ∀ f ∈ ([411, 412, 435, 437, 438, 442, 445, 446, 449, 451, 452, 456, 458, 459, 463, 465, 469, 470, 471, 472] : List Nat), ∀ fn, Tryz.prog.funcs[f]? = some fn → bodyOk plans f fn = true := by
  refine List.forall_mem_cons.2 ⟨fun fn hf => ?_, ?_⟩
  · rw [Tryz.func411] at hf; cases hf; exact plan_ok411
  refine List.forall_mem_cons.2 ⟨fun fn hf => ?_, ?_⟩
  · rw [Tryz.func412] at hf; cases hf; exact plan_ok412
  refine List.forall_mem_cons.2 ⟨fun fn hf => ?_, ?_⟩
  · rw [Tryz.func435] at hf; cases hf; exact plan_ok435
  refine List.forall_mem_cons.2 ⟨fun fn hf => ?_, ?_⟩
  · rw [Tryz.func437] at hf; cases hf; exact plan_ok437
  refine List.forall_mem_cons.2 ⟨fun fn hf => ?_, ?_⟩
  · rw [Tryz.func438] at hf; cases hf; exact plan_ok438
  refine List.forall_mem_cons.2 ⟨fun fn hf => ?_, ?_⟩
  · rw [Tryz.func442] at hf; cases hf; exact plan_ok442
  refine List.forall_mem_cons.2 ⟨fun fn hf => ?_, ?_⟩
  · rw [Tryz.func445] at hf; cases hf; exact plan_ok445
  refine List.forall_mem_cons.2 ⟨fun fn hf => ?_, ?_⟩
  · rw [Tryz.func446] at hf; cases hf; exact plan_ok446
  refine List.forall_mem_cons.2 ⟨fun fn hf => ?_, ?_⟩
  · rw [Tryz.func449] at hf; cases hf; exact plan_ok449
  refine List.forall_mem_cons.2 ⟨fun fn hf => ?_, ?_⟩
  · rw [Tryz.func451] at hf; cases hf; exact plan_ok451
  refine List.forall_mem_cons.2 ⟨fun fn hf => ?_, ?_⟩
  · rw [Tryz.func452] at hf; cases hf; exact plan_ok452
  refine List.forall_mem_cons.2 ⟨fun fn hf => ?_, ?_⟩
  · rw [Tryz.func456] at hf; cases hf; exact plan_ok456
  refine List.forall_mem_cons.2 ⟨fun fn hf => ?_, ?_⟩
  · rw [Tryz.func458] at hf; cases hf; exact plan_ok458
  refine List.forall_mem_cons.2 ⟨fun fn hf => ?_, ?_⟩
  · rw [Tryz.func459] at hf; cases hf; exact plan_ok459
  refine List.forall_mem_cons.2 ⟨fun fn hf => ?_, ?_⟩
  · rw [Tryz.func463] at hf; cases hf; exact plan_ok463
  refine List.forall_mem_cons.2 ⟨fun fn hf => ?_, ?_⟩
  · rw [Tryz.func465] at hf; cases hf; exact plan_ok465
  refine List.forall_mem_cons.2 ⟨fun fn hf => ?_, ?_⟩
  · rw [Tryz.func469] at hf; cases hf; exact plan_ok469
  refine List.forall_mem_cons.2 ⟨fun fn hf => ?_, ?_⟩
  · rw [Tryz.func470] at hf; cases hf; exact plan_ok470
  refine List.forall_mem_cons.2 ⟨fun fn hf => ?_, ?_⟩
  · rw [Tryz.func471] at hf; cases hf; exact plan_ok471
  refine List.forall_mem_cons.2 ⟨fun fn hf => ?_, ?_⟩
  · rw [Tryz.func472] at hf; cases hf; exact plan_ok472
  exact fun x hx => by cases hx
theorem planFs_cut : planFs = [3, 4, 7, 17, 18, 20, 23, 24, 31, 39, 40, 42, 44, 45, 46, 47, 48, 51, 52, 54, 56, 58, 77, 78, 81, 84, 86, 90, 92, 95, 98, 99, 109, 110, 111, 112, 115, 116, 117, 119] ++ [120, 131, 139, 147, 149, 150, 151, 153, 154, 156, 158, 159, 162, 163, 164, 166, 167, 172, 173, 177, 179, 180, 181, 182, 183, 184, 185, 188, 191, 192, 193, 197, 200, 201, 202, 203, 205, 209, 211, 215] ++ [216, 218, 220, 223, 224, 225, 227, 228, 230, 231, 234, 237, 238, 253, 254, 258, 259, 266, 269, 271, 272, 275, 276, 281, 283, 286, 296, 297, 298, 299, 300, 301, 302, 310, 311, 319, 320, 328, 329, 330] ++ [332, 336, 337, 338, 339, 341, 346, 349, 350, 351, 352, 356, 357, 358, 359, 362, 363, 364, 373, 374, 375, 376, 377, 379, 380, 381, 383, 384, 385, 386, 388, 389, 390, 392, 393, 395, 396, 403, 404, 407] ++ [411, 412, 435, 437, 438, 442, 445, 446, 449, 451, 452, 456, 458, 459, 463, 465, 469, 470, 471, 472] := by kernel_rfl
theorem plans_ok : PlansOk Tryz.prog plans := by
  have key : ∀ f fn, Tryz.prog.funcs[f]? = some fn → bodyOk plans f fn = true := by
    intro f fn hf
    have h := List.all_eq_true.1 plans_rest (fn, f) (by rw [List.mem_zipIdx_iff_getElem?]; simpa using hf)
    simp only [Bool.or_eq_true] at h
    rcases h with h | h
    · have h := List.contains_iff_mem.1 h
      rw [planFs_cut] at h
      rcases List.mem_append.1 h with h | h
      rotate_left
      · exact plans_lot4 f h fn hf
      rcases List.mem_append.1 h with h | h
      rotate_left
      · exact plans_lot3 f h fn hf
      rcases List.mem_append.1 h with h | h
      rotate_left
      · exact plans_lot2 f h fn hf
      rcases List.mem_append.1 h with h | h
      rotate_left
      · exact plans_lot1 f h fn hf
      exact plans_lot0 f h fn hf
    · exact h
  refine ⟨fun f fn c hf hc => ?_, fun a ha => by cases ha⟩
  simpa [bodyOk, hc] using key f fn hf

end Go.Proofs.YtggoagemdhflfaaGreat

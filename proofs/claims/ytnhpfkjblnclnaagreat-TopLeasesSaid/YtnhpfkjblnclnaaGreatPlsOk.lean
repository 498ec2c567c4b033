/-
  The plans serve every region that draws its order. Printed by plans.py.
-/
import Derived.Test.YtnhpfkjblnclnaaGreatCe
import Derived.Test.YtnhpfkjblnclnaaGreatProg
import Derived.Test.YtnhpfkjblnclnaaGreatPls
set_option linter.unusedVariables false
set_option linter.unusedSimpArgs false
namespace Go.Proofs.YtnhpfkjblnclnaaGreat
open Go

theorem follows_mixed : Tryz.prog.follows .mixedOrders = true := by kernel_rfl
def bodyOk (pl : Plans) (f : FuncId) (fn : Func) : Bool := match fn.body with
  | some c => codeOk pl f c
  | none => true
set_option maxRecDepth 100000 in
theorem plan_ok3 : bodyOk plans 3 Tryz.f3 = true := by kernel_rfl
set_option maxRecDepth 100000 in
theorem plan_ok4 : bodyOk plans 4 Tryz.f4 = true := by kernel_rfl
set_option maxRecDepth 100000 in
theorem plan_ok10 : bodyOk plans 10 Tryz.f10 = true := by kernel_rfl
set_option maxRecDepth 100000 in
theorem plan_ok14 : bodyOk plans 14 Tryz.f14 = true := by kernel_rfl
set_option maxRecDepth 100000 in
theorem plan_ok15 : bodyOk plans 15 Tryz.f15 = true := by kernel_rfl
set_option maxRecDepth 100000 in
theorem plan_ok17 : bodyOk plans 17 Tryz.f17 = true := by kernel_rfl
set_option maxRecDepth 100000 in
theorem plan_ok21 : bodyOk plans 21 Tryz.f21 = true := by kernel_rfl
set_option maxRecDepth 100000 in
theorem plan_ok27 : bodyOk plans 27 Tryz.f27 = true := by kernel_rfl
set_option maxRecDepth 100000 in
theorem plan_ok28 : bodyOk plans 28 Tryz.f28 = true := by kernel_rfl
set_option maxRecDepth 100000 in
theorem plan_ok30 : bodyOk plans 30 Tryz.f30 = true := by kernel_rfl
set_option maxRecDepth 100000 in
theorem plan_ok37 : bodyOk plans 37 Tryz.f37 = true := by kernel_rfl
set_option maxRecDepth 100000 in
theorem plan_ok38 : bodyOk plans 38 Tryz.f38 = true := by kernel_rfl
set_option maxRecDepth 100000 in
theorem plan_ok40 : bodyOk plans 40 Tryz.f40 = true := by kernel_rfl
set_option maxRecDepth 100000 in
theorem plan_ok41 : bodyOk plans 41 Tryz.f41 = true := by kernel_rfl
set_option maxRecDepth 100000 in
theorem plan_ok49 : bodyOk plans 49 Tryz.f49 = true := by kernel_rfl
set_option maxRecDepth 100000 in
theorem plan_ok50 : bodyOk plans 50 Tryz.f50 = true := by kernel_rfl
set_option maxRecDepth 100000 in
theorem plan_ok51 : bodyOk plans 51 Tryz.f51 = true := by kernel_rfl
set_option maxRecDepth 100000 in
theorem plan_ok52 : bodyOk plans 52 Tryz.f52 = true := by kernel_rfl
set_option maxRecDepth 100000 in
theorem plan_ok55 : bodyOk plans 55 Tryz.f55 = true := by kernel_rfl
set_option maxRecDepth 100000 in
theorem plan_ok56 : bodyOk plans 56 Tryz.f56 = true := by kernel_rfl
set_option maxRecDepth 100000 in
theorem plan_ok59 : bodyOk plans 59 Tryz.f59 = true := by kernel_rfl
set_option maxRecDepth 100000 in
theorem plan_ok61 : bodyOk plans 61 Tryz.f61 = true := by kernel_rfl
set_option maxRecDepth 100000 in
theorem plan_ok63 : bodyOk plans 63 Tryz.f63 = true := by kernel_rfl
set_option maxRecDepth 100000 in
theorem plan_ok65 : bodyOk plans 65 Tryz.f65 = true := by kernel_rfl
set_option maxRecDepth 100000 in
theorem plan_ok68 : bodyOk plans 68 Tryz.f68 = true := by kernel_rfl
set_option maxRecDepth 100000 in
theorem plan_ok70 : bodyOk plans 70 Tryz.f70 = true := by kernel_rfl
set_option maxRecDepth 100000 in
theorem plan_ok71 : bodyOk plans 71 Tryz.f71 = true := by kernel_rfl
set_option maxRecDepth 100000 in
theorem plan_ok74 : bodyOk plans 74 Tryz.f74 = true := by kernel_rfl
set_option maxRecDepth 100000 in
theorem plan_ok91 : bodyOk plans 91 Tryz.f91 = true := by kernel_rfl
set_option maxRecDepth 100000 in
theorem plan_ok92 : bodyOk plans 92 Tryz.f92 = true := by kernel_rfl
set_option maxRecDepth 100000 in
theorem plan_ok94 : bodyOk plans 94 Tryz.f94 = true := by kernel_rfl
set_option maxRecDepth 100000 in
theorem plan_ok99 : bodyOk plans 99 Tryz.f99 = true := by kernel_rfl
set_option maxRecDepth 100000 in
theorem plan_ok104 : bodyOk plans 104 Tryz.f104 = true := by kernel_rfl
set_option maxRecDepth 100000 in
theorem plan_ok106 : bodyOk plans 106 Tryz.f106 = true := by kernel_rfl
set_option maxRecDepth 100000 in
theorem plan_ok109 : bodyOk plans 109 Tryz.f109 = true := by kernel_rfl
set_option maxRecDepth 100000 in
theorem plan_ok112 : bodyOk plans 112 Tryz.f112 = true := by kernel_rfl
set_option maxRecDepth 100000 in
theorem plan_ok119 : bodyOk plans 119 Tryz.f119 = true := by kernel_rfl
set_option maxRecDepth 100000 in
theorem plan_ok120 : bodyOk plans 120 Tryz.f120 = true := by kernel_rfl
set_option maxRecDepth 100000 in
theorem plan_ok121 : bodyOk plans 121 Tryz.f121 = true := by kernel_rfl
set_option maxRecDepth 100000 in
theorem plan_ok122 : bodyOk plans 122 Tryz.f122 = true := by kernel_rfl
set_option maxRecDepth 100000 in
theorem plan_ok125 : bodyOk plans 125 Tryz.f125 = true := by kernel_rfl
set_option maxRecDepth 100000 in
theorem plan_ok126 : bodyOk plans 126 Tryz.f126 = true := by kernel_rfl
set_option maxRecDepth 100000 in
theorem plan_ok136 : bodyOk plans 136 Tryz.f136 = true := by kernel_rfl
set_option maxRecDepth 100000 in
theorem plan_ok138 : bodyOk plans 138 Tryz.f138 = true := by kernel_rfl
set_option maxRecDepth 100000 in
theorem plan_ok139 : bodyOk plans 139 Tryz.f139 = true := by kernel_rfl
set_option maxRecDepth 100000 in
theorem plan_ok141 : bodyOk plans 141 Tryz.f141 = true := by kernel_rfl
set_option maxRecDepth 100000 in
theorem plan_ok142 : bodyOk plans 142 Tryz.f142 = true := by kernel_rfl
set_option maxRecDepth 100000 in
theorem plan_ok146 : bodyOk plans 146 Tryz.f146 = true := by kernel_rfl
set_option maxRecDepth 100000 in
theorem plan_ok147 : bodyOk plans 147 Tryz.f147 = true := by kernel_rfl
set_option maxRecDepth 100000 in
theorem plan_ok148 : bodyOk plans 148 Tryz.f148 = true := by kernel_rfl
set_option maxRecDepth 100000 in
theorem plan_ok150 : bodyOk plans 150 Tryz.f150 = true := by kernel_rfl
set_option maxRecDepth 100000 in
theorem plan_ok151 : bodyOk plans 151 Tryz.f151 = true := by kernel_rfl
set_option maxRecDepth 100000 in
theorem plan_ok156 : bodyOk plans 156 Tryz.f156 = true := by kernel_rfl
set_option maxRecDepth 100000 in
theorem plan_ok158 : bodyOk plans 158 Tryz.f158 = true := by kernel_rfl
set_option maxRecDepth 100000 in
theorem plan_ok159 : bodyOk plans 159 Tryz.f159 = true := by kernel_rfl
set_option maxRecDepth 100000 in
theorem plan_ok160 : bodyOk plans 160 Tryz.f160 = true := by kernel_rfl
set_option maxRecDepth 100000 in
theorem plan_ok162 : bodyOk plans 162 Tryz.f162 = true := by kernel_rfl
set_option maxRecDepth 100000 in
theorem plan_ok163 : bodyOk plans 163 Tryz.f163 = true := by kernel_rfl
set_option maxRecDepth 100000 in
theorem plan_ok170 : bodyOk plans 170 Tryz.f170 = true := by kernel_rfl
set_option maxRecDepth 100000 in
theorem plan_ok171 : bodyOk plans 171 Tryz.f171 = true := by kernel_rfl
set_option maxRecDepth 100000 in
theorem plan_ok177 : bodyOk plans 177 Tryz.f177 = true := by kernel_rfl
set_option maxRecDepth 100000 in
theorem plan_ok178 : bodyOk plans 178 Tryz.f178 = true := by kernel_rfl
set_option maxRecDepth 100000 in
theorem plan_ok182 : bodyOk plans 182 Tryz.f182 = true := by kernel_rfl
set_option maxRecDepth 100000 in
theorem plan_ok184 : bodyOk plans 184 Tryz.f184 = true := by kernel_rfl
set_option maxRecDepth 100000 in
theorem plan_ok185 : bodyOk plans 185 Tryz.f185 = true := by kernel_rfl
set_option maxRecDepth 100000 in
theorem plan_ok186 : bodyOk plans 186 Tryz.f186 = true := by kernel_rfl
set_option maxRecDepth 100000 in
theorem plan_ok187 : bodyOk plans 187 Tryz.f187 = true := by kernel_rfl
set_option maxRecDepth 100000 in
theorem plan_ok188 : bodyOk plans 188 Tryz.f188 = true := by kernel_rfl
set_option maxRecDepth 100000 in
theorem plan_ok189 : bodyOk plans 189 Tryz.f189 = true := by kernel_rfl
set_option maxRecDepth 100000 in
theorem plan_ok190 : bodyOk plans 190 Tryz.f190 = true := by kernel_rfl
set_option maxRecDepth 100000 in
theorem plan_ok193 : bodyOk plans 193 Tryz.f193 = true := by kernel_rfl
set_option maxRecDepth 100000 in
theorem plan_ok197 : bodyOk plans 197 Tryz.f197 = true := by kernel_rfl
set_option maxRecDepth 100000 in
theorem plan_ok200 : bodyOk plans 200 Tryz.f200 = true := by kernel_rfl
set_option maxRecDepth 100000 in
theorem plan_ok201 : bodyOk plans 201 Tryz.f201 = true := by kernel_rfl
set_option maxRecDepth 100000 in
theorem plan_ok205 : bodyOk plans 205 Tryz.f205 = true := by kernel_rfl
set_option maxRecDepth 100000 in
theorem plan_ok206 : bodyOk plans 206 Tryz.f206 = true := by kernel_rfl
set_option maxRecDepth 100000 in
theorem plan_ok210 : bodyOk plans 210 Tryz.f210 = true := by kernel_rfl
set_option maxRecDepth 100000 in
theorem plan_ok213 : bodyOk plans 213 Tryz.f213 = true := by kernel_rfl
set_option maxRecDepth 100000 in
theorem plan_ok214 : bodyOk plans 214 Tryz.f214 = true := by kernel_rfl
set_option maxRecDepth 100000 in
theorem plan_ok217 : bodyOk plans 217 Tryz.f217 = true := by kernel_rfl
set_option maxRecDepth 100000 in
theorem plan_ok224 : bodyOk plans 224 Tryz.f224 = true := by kernel_rfl
set_option maxRecDepth 100000 in
theorem plan_ok225 : bodyOk plans 225 Tryz.f225 = true := by kernel_rfl
set_option maxRecDepth 100000 in
theorem plan_ok226 : bodyOk plans 226 Tryz.f226 = true := by kernel_rfl
set_option maxRecDepth 100000 in
theorem plan_ok228 : bodyOk plans 228 Tryz.f228 = true := by kernel_rfl
set_option maxRecDepth 100000 in
theorem plan_ok229 : bodyOk plans 229 Tryz.f229 = true := by kernel_rfl
set_option maxRecDepth 100000 in
theorem plan_ok231 : bodyOk plans 231 Tryz.f231 = true := by kernel_rfl
set_option maxRecDepth 100000 in
theorem plan_ok232 : bodyOk plans 232 Tryz.f232 = true := by kernel_rfl
set_option maxRecDepth 100000 in
theorem plan_ok236 : bodyOk plans 236 Tryz.f236 = true := by kernel_rfl
set_option maxRecDepth 100000 in
theorem plan_ok244 : bodyOk plans 244 Tryz.f244 = true := by kernel_rfl
set_option maxRecDepth 100000 in
theorem plan_ok246 : bodyOk plans 246 Tryz.f246 = true := by kernel_rfl
set_option maxRecDepth 100000 in
theorem plan_ok247 : bodyOk plans 247 Tryz.f247 = true := by kernel_rfl
set_option maxRecDepth 100000 in
theorem plan_ok248 : bodyOk plans 248 Tryz.f248 = true := by kernel_rfl
set_option maxRecDepth 100000 in
theorem plan_ok250 : bodyOk plans 250 Tryz.f250 = true := by kernel_rfl
set_option maxRecDepth 100000 in
theorem plan_ok251 : bodyOk plans 251 Tryz.f251 = true := by kernel_rfl
set_option maxRecDepth 100000 in
theorem plan_ok253 : bodyOk plans 253 Tryz.f253 = true := by kernel_rfl
set_option maxRecDepth 100000 in
theorem plan_ok266 : bodyOk plans 266 Tryz.f266 = true := by kernel_rfl
set_option maxRecDepth 100000 in
theorem plan_ok267 : bodyOk plans 267 Tryz.f267 = true := by kernel_rfl
set_option maxRecDepth 100000 in
theorem plan_ok271 : bodyOk plans 271 Tryz.f271 = true := by kernel_rfl
set_option maxRecDepth 100000 in
theorem plan_ok272 : bodyOk plans 272 Tryz.f272 = true := by kernel_rfl
set_option maxRecDepth 100000 in
theorem plan_ok275 : bodyOk plans 275 Tryz.f275 = true := by kernel_rfl
set_option maxRecDepth 100000 in
theorem plan_ok278 : bodyOk plans 278 Tryz.f278 = true := by kernel_rfl
set_option maxRecDepth 100000 in
theorem plan_ok280 : bodyOk plans 280 Tryz.f280 = true := by kernel_rfl
set_option maxRecDepth 100000 in
theorem plan_ok281 : bodyOk plans 281 Tryz.f281 = true := by kernel_rfl
set_option maxRecDepth 100000 in
theorem plan_ok285 : bodyOk plans 285 Tryz.f285 = true := by kernel_rfl
set_option maxRecDepth 100000 in
theorem plan_ok295 : bodyOk plans 295 Tryz.f295 = true := by kernel_rfl
set_option maxRecDepth 100000 in
theorem plan_ok297 : bodyOk plans 297 Tryz.f297 = true := by kernel_rfl
set_option maxRecDepth 100000 in
theorem plan_ok301 : bodyOk plans 301 Tryz.f301 = true := by kernel_rfl
set_option maxRecDepth 100000 in
theorem plan_ok303 : bodyOk plans 303 Tryz.f303 = true := by kernel_rfl
set_option maxRecDepth 100000 in
theorem plan_ok307 : bodyOk plans 307 Tryz.f307 = true := by kernel_rfl
set_option maxRecDepth 100000 in
theorem plan_ok308 : bodyOk plans 308 Tryz.f308 = true := by kernel_rfl
set_option maxRecDepth 100000 in
theorem plan_ok310 : bodyOk plans 310 Tryz.f310 = true := by kernel_rfl
set_option maxRecDepth 100000 in
theorem plan_ok312 : bodyOk plans 312 Tryz.f312 = true := by kernel_rfl
set_option maxRecDepth 100000 in
theorem plan_ok317 : bodyOk plans 317 Tryz.f317 = true := by kernel_rfl
set_option maxRecDepth 100000 in
theorem plan_ok318 : bodyOk plans 318 Tryz.f318 = true := by kernel_rfl
set_option maxRecDepth 100000 in
theorem plan_ok319 : bodyOk plans 319 Tryz.f319 = true := by kernel_rfl
set_option maxRecDepth 100000 in
theorem plan_ok320 : bodyOk plans 320 Tryz.f320 = true := by kernel_rfl
set_option maxRecDepth 100000 in
theorem plan_ok321 : bodyOk plans 321 Tryz.f321 = true := by kernel_rfl
set_option maxRecDepth 100000 in
theorem plan_ok322 : bodyOk plans 322 Tryz.f322 = true := by kernel_rfl
set_option maxRecDepth 100000 in
theorem plan_ok323 : bodyOk plans 323 Tryz.f323 = true := by kernel_rfl
set_option maxRecDepth 100000 in
theorem plan_ok330 : bodyOk plans 330 Tryz.f330 = true := by kernel_rfl
set_option maxRecDepth 100000 in
theorem plan_ok331 : bodyOk plans 331 Tryz.f331 = true := by kernel_rfl
set_option maxRecDepth 100000 in
theorem plan_ok341 : bodyOk plans 341 Tryz.f341 = true := by kernel_rfl
set_option maxRecDepth 100000 in
theorem plan_ok342 : bodyOk plans 342 Tryz.f342 = true := by kernel_rfl
set_option maxRecDepth 100000 in
theorem plan_ok344 : bodyOk plans 344 Tryz.f344 = true := by kernel_rfl
set_option maxRecDepth 100000 in
theorem plan_ok345 : bodyOk plans 345 Tryz.f345 = true := by kernel_rfl
set_option maxRecDepth 100000 in
theorem plan_ok349 : bodyOk plans 349 Tryz.f349 = true := by kernel_rfl
set_option maxRecDepth 100000 in
theorem plan_ok351 : bodyOk plans 351 Tryz.f351 = true := by kernel_rfl
set_option maxRecDepth 100000 in
theorem plan_ok352 : bodyOk plans 352 Tryz.f352 = true := by kernel_rfl
set_option maxRecDepth 100000 in
theorem plan_ok353 : bodyOk plans 353 Tryz.f353 = true := by kernel_rfl
set_option maxRecDepth 100000 in
theorem plan_ok355 : bodyOk plans 355 Tryz.f355 = true := by kernel_rfl
set_option maxRecDepth 100000 in
theorem plan_ok359 : bodyOk plans 359 Tryz.f359 = true := by kernel_rfl
set_option maxRecDepth 100000 in
theorem plan_ok360 : bodyOk plans 360 Tryz.f360 = true := by kernel_rfl
set_option maxRecDepth 100000 in
theorem plan_ok361 : bodyOk plans 361 Tryz.f361 = true := by kernel_rfl
set_option maxRecDepth 100000 in
theorem plan_ok362 : bodyOk plans 362 Tryz.f362 = true := by kernel_rfl
set_option maxRecDepth 100000 in
theorem plan_ok364 : bodyOk plans 364 Tryz.f364 = true := by kernel_rfl
set_option maxRecDepth 100000 in
theorem plan_ok369 : bodyOk plans 369 Tryz.f369 = true := by kernel_rfl
set_option maxRecDepth 100000 in
theorem plan_ok372 : bodyOk plans 372 Tryz.f372 = true := by kernel_rfl
set_option maxRecDepth 100000 in
theorem plan_ok373 : bodyOk plans 373 Tryz.f373 = true := by kernel_rfl
set_option maxRecDepth 100000 in
theorem plan_ok374 : bodyOk plans 374 Tryz.f374 = true := by kernel_rfl
set_option maxRecDepth 100000 in
theorem plan_ok376 : bodyOk plans 376 Tryz.f376 = true := by kernel_rfl
set_option maxRecDepth 100000 in
theorem plan_ok379 : bodyOk plans 379 Tryz.f379 = true := by kernel_rfl
set_option maxRecDepth 100000 in
theorem plan_ok380 : bodyOk plans 380 Tryz.f380 = true := by kernel_rfl
set_option maxRecDepth 100000 in
theorem plan_ok383 : bodyOk plans 383 Tryz.f383 = true := by kernel_rfl
set_option maxRecDepth 100000 in
theorem plan_ok387 : bodyOk plans 387 Tryz.f387 = true := by kernel_rfl
set_option maxRecDepth 100000 in
theorem plan_ok388 : bodyOk plans 388 Tryz.f388 = true := by kernel_rfl
set_option maxRecDepth 100000 in
theorem plan_ok389 : bodyOk plans 389 Tryz.f389 = true := by kernel_rfl
set_option maxRecDepth 100000 in
theorem plan_ok396 : bodyOk plans 396 Tryz.f396 = true := by kernel_rfl
set_option maxRecDepth 100000 in
theorem plan_ok397 : bodyOk plans 397 Tryz.f397 = true := by kernel_rfl
set_option maxRecDepth 100000 in
theorem plan_ok398 : bodyOk plans 398 Tryz.f398 = true := by kernel_rfl
set_option maxRecDepth 100000 in
theorem plan_ok399 : bodyOk plans 399 Tryz.f399 = true := by kernel_rfl
set_option maxRecDepth 100000 in
theorem plan_ok400 : bodyOk plans 400 Tryz.f400 = true := by kernel_rfl
set_option maxRecDepth 100000 in
theorem plan_ok402 : bodyOk plans 402 Tryz.f402 = true := by kernel_rfl
set_option maxRecDepth 100000 in
theorem plan_ok403 : bodyOk plans 403 Tryz.f403 = true := by kernel_rfl
set_option maxRecDepth 100000 in
theorem plan_ok404 : bodyOk plans 404 Tryz.f404 = true := by kernel_rfl
set_option maxRecDepth 100000 in
theorem plan_ok406 : bodyOk plans 406 Tryz.f406 = true := by kernel_rfl
set_option maxRecDepth 100000 in
theorem plan_ok407 : bodyOk plans 407 Tryz.f407 = true := by kernel_rfl
set_option maxRecDepth 100000 in
theorem plan_ok408 : bodyOk plans 408 Tryz.f408 = true := by kernel_rfl
set_option maxRecDepth 100000 in
theorem plan_ok409 : bodyOk plans 409 Tryz.f409 = true := by kernel_rfl
set_option maxRecDepth 100000 in
theorem plan_ok410 : bodyOk plans 410 Tryz.f410 = true := by kernel_rfl
set_option maxRecDepth 100000 in
theorem plan_ok411 : bodyOk plans 411 Tryz.f411 = true := by kernel_rfl
set_option maxRecDepth 100000 in
theorem plan_ok412 : bodyOk plans 412 Tryz.f412 = true := by kernel_rfl
set_option maxRecDepth 100000 in
theorem plan_ok414 : bodyOk plans 414 Tryz.f414 = true := by kernel_rfl
set_option maxRecDepth 100000 in
theorem plan_ok415 : bodyOk plans 415 Tryz.f415 = true := by kernel_rfl
set_option maxRecDepth 100000 in
theorem plan_ok417 : bodyOk plans 417 Tryz.f417 = true := by kernel_rfl
set_option maxRecDepth 100000 in
theorem plan_ok418 : bodyOk plans 418 Tryz.f418 = true := by kernel_rfl
set_option maxRecDepth 100000 in
theorem plan_ok427 : bodyOk plans 427 Tryz.f427 = true := by kernel_rfl
set_option maxRecDepth 100000 in
theorem plan_ok428 : bodyOk plans 428 Tryz.f428 = true := by kernel_rfl
set_option maxRecDepth 100000 in
theorem plan_ok431 : bodyOk plans 431 Tryz.f431 = true := by kernel_rfl
set_option maxRecDepth 100000 in
theorem plan_ok435 : bodyOk plans 435 Tryz.f435 = true := by kernel_rfl
set_option maxRecDepth 100000 in
theorem plan_ok436 : bodyOk plans 436 Tryz.f436 = true := by kernel_rfl
set_option maxRecDepth 100000 in
theorem plan_ok468 : bodyOk plans 468 Tryz.f468 = true := by kernel_rfl
set_option maxRecDepth 100000 in
theorem plan_ok470 : bodyOk plans 470 Tryz.f470 = true := by kernel_rfl
set_option maxRecDepth 100000 in
theorem plan_ok471 : bodyOk plans 471 Tryz.f471 = true := by kernel_rfl
set_option maxRecDepth 100000 in
theorem plan_ok475 : bodyOk plans 475 Tryz.f475 = true := by kernel_rfl
set_option maxRecDepth 100000 in
theorem plan_ok478 : bodyOk plans 478 Tryz.f478 = true := by kernel_rfl
set_option maxRecDepth 100000 in
theorem plan_ok479 : bodyOk plans 479 Tryz.f479 = true := by kernel_rfl
set_option maxRecDepth 100000 in
theorem plan_ok482 : bodyOk plans 482 Tryz.f482 = true := by kernel_rfl
set_option maxRecDepth 100000 in
theorem plan_ok484 : bodyOk plans 484 Tryz.f484 = true := by kernel_rfl
set_option maxRecDepth 100000 in
theorem plan_ok485 : bodyOk plans 485 Tryz.f485 = true := by kernel_rfl
set_option maxRecDepth 100000 in
theorem plan_ok489 : bodyOk plans 489 Tryz.f489 = true := by kernel_rfl
set_option maxRecDepth 100000 in
theorem plan_ok491 : bodyOk plans 491 Tryz.f491 = true := by kernel_rfl
set_option maxRecDepth 100000 in
theorem plan_ok492 : bodyOk plans 492 Tryz.f492 = true := by kernel_rfl
set_option maxRecDepth 100000 in
theorem plan_ok496 : bodyOk plans 496 Tryz.f496 = true := by kernel_rfl
set_option maxRecDepth 100000 in
theorem plan_ok498 : bodyOk plans 498 Tryz.f498 = true := by kernel_rfl
set_option maxRecDepth 100000 in
theorem plan_ok502 : bodyOk plans 502 Tryz.f502 = true := by kernel_rfl
set_option maxRecDepth 100000 in
theorem plan_ok503 : bodyOk plans 503 Tryz.f503 = true := by kernel_rfl
set_option maxRecDepth 100000 in
theorem plan_ok504 : bodyOk plans 504 Tryz.f504 = true := by kernel_rfl
set_option maxRecDepth 100000 in
theorem plan_ok505 : bodyOk plans 505 Tryz.f505 = true := by kernel_rfl
def planFs : List Nat := [3, 4, 10, 14, 15, 17, 21, 27, 28, 30, 37, 38, 40, 41, 49, 50, 51, 52, 55, 56, 59, 61, 63, 65, 68, 70, 71, 74, 91, 92, 94, 99, 104, 106, 109, 112, 119, 120, 121, 122, 125, 126, 136, 138, 139, 141, 142, 146, 147, 148, 150, 151, 156, 158, 159, 160, 162, 163, 170, 171, 177, 178, 182, 184, 185, 186, 187, 188, 189, 190, 193, 197, 200, 201, 205, 206, 210, 213, 214, 217, 224, 225, 226, 228, 229, 231, 232, 236, 244, 246, 247, 248, 250, 251, 253, 266, 267, 271, 272, 275, 278, 280, 281, 285, 295, 297, 301, 303, 307, 308, 310, 312, 317, 318, 319, 320, 321, 322, 323, 330, 331, 341, 342, 344, 345, 349, 351, 352, 353, 355, 359, 360, 361, 362, 364, 369, 372, 373, 374, 376, 379, 380, 383, 387, 388, 389, 396, 397, 398, 399, 400, 402, 403, 404, 406, 407, 408, 409, 410, 411, 412, 414, 415, 417, 418, 427, 428, 431, 435, 436, 468, 470, 471, 475, 478, 479, 482, 484, 485, 489, 491, 492, 496, 498, 502, 503, 504, 505]
set_option maxRecDepth 100000 in
theorem plans_rest : (Tryz.prog.funcs.toList.zipIdx.all fun x => planFs.contains x.2 || bodyOk plans x.2 x.1) = true := by kernel_rfl
theorem plans_lot0 : ∀ f ∈ ([3, 4, 10, 14, 15, 17, 21, 27, 28, 30, 37, 38, 40, 41, 49, 50, 51, 52, 55, 56, 59, 61, 63, 65, 68, 70, 71, 74, 91, 92, 94, 99, 104, 106, 109, 112, 119, 120, 121, 122] : List Nat), ∀ fn, Tryz.prog.funcs[f]? = some fn → bodyOk plans f fn = true := by
  refine List.forall_mem_cons.2 ⟨fun fn hf => ?_, ?_⟩
  · rw [Tryz.func3] at hf; cases hf; exact plan_ok3
  refine List.forall_mem_cons.2 ⟨fun fn hf => ?_, ?_⟩
  · rw [Tryz.func4] at hf; cases hf; exact plan_ok4
  refine List.forall_mem_cons.2 ⟨fun fn hf => ?_, ?_⟩
  · rw [Tryz.func10] at hf; cases hf; exact plan_ok10
  refine List.forall_mem_cons.2 ⟨fun fn hf => ?_, ?_⟩
  · rw [Tryz.func14] at hf; cases hf; exact plan_ok14
  refine List.forall_mem_cons.2 ⟨fun fn hf => ?_, ?_⟩
  · rw [Tryz.func15] at hf; cases hf; exact plan_ok15
  refine List.forall_mem_cons.2 ⟨fun fn hf => ?_, ?_⟩
  · rw [Tryz.func17] at hf; cases hf; exact plan_ok17
  refine List.forall_mem_cons.2 ⟨fun fn hf => ?_, ?_⟩
  · rw [Tryz.func21] at hf; cases hf; exact plan_ok21
  refine List.forall_mem_cons.2 ⟨fun fn hf => ?_, ?_⟩
  · rw [Tryz.func27] at hf; cases hf; exact plan_ok27
  refine List.forall_mem_cons.2 ⟨fun fn hf => ?_, ?_⟩
  · rw [Tryz.func28] at hf; cases hf; exact plan_ok28
  refine List.forall_mem_cons.2 ⟨fun fn hf => ?_, ?_⟩
  · rw [Tryz.func30] at hf; cases hf; exact plan_ok30
  refine List.forall_mem_cons.2 ⟨fun fn hf => ?_, ?_⟩
  · rw [Tryz.func37] at hf; cases hf; exact plan_ok37
  refine List.forall_mem_cons.2 ⟨fun fn hf => ?_, ?_⟩
  · rw [Tryz.func38] at hf; cases hf; exact plan_ok38
  refine List.forall_mem_cons.2 ⟨fun fn hf => ?_, ?_⟩
  · rw [Tryz.func40] at hf; cases hf; exact plan_ok40
  refine List.forall_mem_cons.2 ⟨fun fn hf => ?_, ?_⟩
  · rw [Tryz.func41] at hf; cases hf; exact plan_ok41
  refine List.forall_mem_cons.2 ⟨fun fn hf => ?_, ?_⟩
  · rw [Tryz.func49] at hf; cases hf; exact plan_ok49
  refine List.forall_mem_cons.2 ⟨fun fn hf => ?_, ?_⟩
  · rw [Tryz.func50] at hf; cases hf; exact plan_ok50
  refine List.forall_mem_cons.2 ⟨fun fn hf => ?_, ?_⟩
  · rw [Tryz.func51] at hf; cases hf; exact plan_ok51
  refine List.forall_mem_cons.2 ⟨fun fn hf => ?_, ?_⟩
  · rw [Tryz.func52] at hf; cases hf; exact plan_ok52
  refine List.forall_mem_cons.2 ⟨fun fn hf => ?_, ?_⟩
  · rw [Tryz.func55] at hf; cases hf; exact plan_ok55
  refine List.forall_mem_cons.2 ⟨fun fn hf => ?_, ?_⟩
  · rw [Tryz.func56] at hf; cases hf; exact plan_ok56
  refine List.forall_mem_cons.2 ⟨fun fn hf => ?_, ?_⟩
  · rw [Tryz.func59] at hf; cases hf; exact plan_ok59
  refine List.forall_mem_cons.2 ⟨fun fn hf => ?_, ?_⟩
  · rw [Tryz.func61] at hf; cases hf; exact plan_ok61
  refine List.forall_mem_cons.2 ⟨fun fn hf => ?_, ?_⟩
  · rw [Tryz.func63] at hf; cases hf; exact plan_ok63
  refine List.forall_mem_cons.2 ⟨fun fn hf => ?_, ?_⟩
  · rw [Tryz.func65] at hf; cases hf; exact plan_ok65
  refine List.forall_mem_cons.2 ⟨fun fn hf => ?_, ?_⟩
  · rw [Tryz.func68] at hf; cases hf; exact plan_ok68
  refine List.forall_mem_cons.2 ⟨fun fn hf => ?_, ?_⟩
  · rw [Tryz.func70] at hf; cases hf; exact plan_ok70
  refine List.forall_mem_cons.2 ⟨fun fn hf => ?_, ?_⟩
  · rw [Tryz.func71] at hf; cases hf; exact plan_ok71
  refine List.forall_mem_cons.2 ⟨fun fn hf => ?_, ?_⟩
  · rw [Tryz.func74] at hf; cases hf; exact plan_ok74
  refine List.forall_mem_cons.2 ⟨fun fn hf => ?_, ?_⟩
  · rw [Tryz.func91] at hf; cases hf; exact plan_ok91
  refine List.forall_mem_cons.2 ⟨fun fn hf => ?_, ?_⟩
  · rw [Tryz.func92] at hf; cases hf; exact plan_ok92
  refine List.forall_mem_cons.2 ⟨fun fn hf => ?_, ?_⟩
  · rw [Tryz.func94] at hf; cases hf; exact plan_ok94
  refine List.forall_mem_cons.2 ⟨fun fn hf => ?_, ?_⟩
  · rw [Tryz.func99] at hf; cases hf; exact plan_ok99
  refine List.forall_mem_cons.2 ⟨fun fn hf => ?_, ?_⟩
  · rw [Tryz.func104] at hf; cases hf; exact plan_ok104
  refine List.forall_mem_cons.2 ⟨fun fn hf => ?_, ?_⟩
  · rw [Tryz.func106] at hf; cases hf; exact plan_ok106
  refine List.forall_mem_cons.2 ⟨fun fn hf => ?_, ?_⟩
  · rw [Tryz.func109] at hf; cases hf; exact plan_ok109
  refine List.forall_mem_cons.2 ⟨fun fn hf => ?_, ?_⟩
  · rw [Tryz.func112] at hf; cases hf; exact plan_ok112
  refine List.forall_mem_cons.2 ⟨fun fn hf => ?_, ?_⟩
  · rw [Tryz.func119] at hf; cases hf; exact plan_ok119
  refine List.forall_mem_cons.2 ⟨fun fn hf => ?_, ?_⟩
  · rw [Tryz.func120] at hf; cases hf; exact plan_ok120
  refine List.forall_mem_cons.2 ⟨fun fn hf => ?_, ?_⟩
  · rw [Tryz.func121] at hf; cases hf; exact plan_ok121
  refine List.forall_mem_cons.2 ⟨fun fn hf => ?_, ?_⟩
  · rw [Tryz.func122] at hf; cases hf; exact plan_ok122
  exact fun x hx => by cases hx
theorem plans_lot1 : ∀ f ∈ ([125, 126, 136, 138, 139, 141, 142, 146, 147, 148, 150, 151, 156, 158, 159, 160, 162, 163, 170, 171, 177, 178, 182, 184, 185, 186, 187, 188, 189, 190, 193, 197, 200, 201, 205, 206, 210, 213, 214, 217] : List Nat), ∀ fn, Tryz.prog.funcs[f]? = some fn → bodyOk plans f fn = true := by
  refine List.forall_mem_cons.2 ⟨fun fn hf => ?_, ?_⟩
  · rw [Tryz.func125] at hf; cases hf; exact plan_ok125
  refine List.forall_mem_cons.2 ⟨fun fn hf => ?_, ?_⟩
  · rw [Tryz.func126] at hf; cases hf; exact plan_ok126
  refine List.forall_mem_cons.2 ⟨fun fn hf => ?_, ?_⟩
  · rw [Tryz.func136] at hf; cases hf; exact plan_ok136
  refine List.forall_mem_cons.2 ⟨fun fn hf => ?_, ?_⟩
  · rw [Tryz.func138] at hf; cases hf; exact plan_ok138
  refine List.forall_mem_cons.2 ⟨fun fn hf => ?_, ?_⟩
  · rw [Tryz.func139] at hf; cases hf; exact plan_ok139
  refine List.forall_mem_cons.2 ⟨fun fn hf => ?_, ?_⟩
  · rw [Tryz.func141] at hf; cases hf; exact plan_ok141
  refine List.forall_mem_cons.2 ⟨fun fn hf => ?_, ?_⟩
  · rw [Tryz.func142] at hf; cases hf; exact plan_ok142
  refine List.forall_mem_cons.2 ⟨fun fn hf => ?_, ?_⟩
  · rw [Tryz.func146] at hf; cases hf; exact plan_ok146
  refine List.forall_mem_cons.2 ⟨fun fn hf => ?_, ?_⟩
  · rw [Tryz.func147] at hf; cases hf; exact plan_ok147
  refine List.forall_mem_cons.2 ⟨fun fn hf => ?_, ?_⟩
  · rw [Tryz.func148] at hf; cases hf; exact plan_ok148
  refine List.forall_mem_cons.2 ⟨fun fn hf => ?_, ?_⟩
  · rw [Tryz.func150] at hf; cases hf; exact plan_ok150
  refine List.forall_mem_cons.2 ⟨fun fn hf => ?_, ?_⟩
  · rw [Tryz.func151] at hf; cases hf; exact plan_ok151
  refine List.forall_mem_cons.2 ⟨fun fn hf => ?_, ?_⟩
  · rw [Tryz.func156] at hf; cases hf; exact plan_ok156
  refine List.forall_mem_cons.2 ⟨fun fn hf => ?_, ?_⟩
  · rw [Tryz.func158] at hf; cases hf; exact plan_ok158
  refine List.forall_mem_cons.2 ⟨fun fn hf => ?_, ?_⟩
  · rw [Tryz.func159] at hf; cases hf; exact plan_ok159
  refine List.forall_mem_cons.2 ⟨fun fn hf => ?_, ?_⟩
  · rw [Tryz.func160] at hf; cases hf; exact plan_ok160
  refine List.forall_mem_cons.2 ⟨fun fn hf => ?_, ?_⟩
  · rw [Tryz.func162] at hf; cases hf; exact plan_ok162
  refine List.forall_mem_cons.2 ⟨fun fn hf => ?_, ?_⟩
  · rw [Tryz.func163] at hf; cases hf; exact plan_ok163
  refine List.forall_mem_cons.2 ⟨fun fn hf => ?_, ?_⟩
  · rw [Tryz.func170] at hf; cases hf; exact plan_ok170
  refine List.forall_mem_cons.2 ⟨fun fn hf => ?_, ?_⟩
  · rw [Tryz.func171] at hf; cases hf; exact plan_ok171
  refine List.forall_mem_cons.2 ⟨fun fn hf => ?_, ?_⟩
  · rw [Tryz.func177] at hf; cases hf; exact plan_ok177
  refine List.forall_mem_cons.2 ⟨fun fn hf => ?_, ?_⟩
  · rw [Tryz.func178] at hf; cases hf; exact plan_ok178
  refine List.forall_mem_cons.2 ⟨fun fn hf => ?_, ?_⟩
  · rw [Tryz.func182] at hf; cases hf; exact plan_ok182
  refine List.forall_mem_cons.2 ⟨fun fn hf => ?_, ?_⟩
  · rw [Tryz.func184] at hf; cases hf; exact plan_ok184
  refine List.forall_mem_cons.2 ⟨fun fn hf => ?_, ?_⟩
  · rw [Tryz.func185] at hf; cases hf; exact plan_ok185
  refine List.forall_mem_cons.2 ⟨fun fn hf => ?_, ?_⟩
  · rw [Tryz.func186] at hf; cases hf; exact plan_ok186
  refine List.forall_mem_cons.2 ⟨fun fn hf => ?_, ?_⟩
  · rw [Tryz.func187] at hf; cases hf; exact plan_ok187
  refine List.forall_mem_cons.2 ⟨fun fn hf => ?_, ?_⟩
  · rw [Tryz.func188] at hf; cases hf; exact plan_ok188
  refine List.forall_mem_cons.2 ⟨fun fn hf => ?_, ?_⟩
  · rw [Tryz.func189] at hf; cases hf; exact plan_ok189
  refine List.forall_mem_cons.2 ⟨fun fn hf => ?_, ?_⟩
  · rw [Tryz.func190] at hf; cases hf; exact plan_ok190
  refine List.forall_mem_cons.2 ⟨fun fn hf => ?_, ?_⟩
  · rw [Tryz.func193] at hf; cases hf; exact plan_ok193
  refine List.forall_mem_cons.2 ⟨fun fn hf => ?_, ?_⟩
  · rw [Tryz.func197] at hf; cases hf; exact plan_ok197
  refine List.forall_mem_cons.2 ⟨fun fn hf => ?_, ?_⟩
  · rw [Tryz.func200] at hf; cases hf; exact plan_ok200
  refine List.forall_mem_cons.2 ⟨fun fn hf => ?_, ?_⟩
  · rw [Tryz.func201] at hf; cases hf; exact plan_ok201
  refine List.forall_mem_cons.2 ⟨fun fn hf => ?_, ?_⟩
  · rw [Tryz.func205] at hf; cases hf; exact plan_ok205
  refine List.forall_mem_cons.2 ⟨fun fn hf => ?_, ?_⟩
  · rw [Tryz.func206] at hf; cases hf; exact plan_ok206
  refine List.forall_mem_cons.2 ⟨fun fn hf => ?_, ?_⟩
  · rw [Tryz.func210] at hf; cases hf; exact plan_ok210
  refine List.forall_mem_cons.2 ⟨fun fn hf => ?_, ?_⟩
  · rw [Tryz.func213] at hf; cases hf; exact plan_ok213
  refine List.forall_mem_cons.2 ⟨fun fn hf => ?_, ?_⟩
  · rw [Tryz.func214] at hf; cases hf; exact plan_ok214
  refine List.forall_mem_cons.2 ⟨fun fn hf => ?_, ?_⟩
  · rw [Tryz.func217] at hf; cases hf; exact plan_ok217
  exact fun x hx => by cases hx
theorem plans_lot2 : ∀ f ∈ ([224, 225, 226, 228, 229, 231, 232, 236, 244, 246, 247, 248, 250, 251, 253, 266, 267, 271, 272, 275, 278, 280, 281, 285, 295, 297, 301, 303, 307, 308, 310, 312, 317, 318, 319, 320, 321, 322, 323, 330] : List Nat), ∀ fn, Tryz.prog.funcs[f]? = some fn → bodyOk plans f fn = true := by
  refine List.forall_mem_cons.2 ⟨fun fn hf => ?_, ?_⟩
  · rw [Tryz.func224] at hf; cases hf; exact plan_ok224
  refine List.forall_mem_cons.2 ⟨fun fn hf => ?_, ?_⟩
  · rw [Tryz.func225] at hf; cases hf; exact plan_ok225
  refine List.forall_mem_cons.2 ⟨fun fn hf => ?_, ?_⟩
  · rw [Tryz.func226] at hf; cases hf; exact plan_ok226
  refine List.forall_mem_cons.2 ⟨fun fn hf => ?_, ?_⟩
  · rw [Tryz.func228] at hf; cases hf; exact plan_ok228
  refine List.forall_mem_cons.2 ⟨fun fn hf => ?_, ?_⟩
  · rw [Tryz.func229] at hf; cases hf; exact plan_ok229
  refine List.forall_mem_cons.2 ⟨fun fn hf => ?_, ?_⟩
  · rw [Tryz.func231] at hf; cases hf; exact plan_ok231
  refine List.forall_mem_cons.2 ⟨fun fn hf => ?_, ?_⟩
  · rw [Tryz.func232] at hf; cases hf; exact plan_ok232
  refine List.forall_mem_cons.2 ⟨fun fn hf => ?_, ?_⟩
  · rw [Tryz.func236] at hf; cases hf; exact plan_ok236
  refine List.forall_mem_cons.2 ⟨fun fn hf => ?_, ?_⟩
  · rw [Tryz.func244] at hf; cases hf; exact plan_ok244
  refine List.forall_mem_cons.2 ⟨fun fn hf => ?_, ?_⟩
  · rw [Tryz.func246] at hf; cases hf; exact plan_ok246
  refine List.forall_mem_cons.2 ⟨fun fn hf => ?_, ?_⟩
  · rw [Tryz.func247] at hf; cases hf; exact plan_ok247
  refine List.forall_mem_cons.2 ⟨fun fn hf => ?_, ?_⟩
  · rw [Tryz.func248] at hf; cases hf; exact plan_ok248
  refine List.forall_mem_cons.2 ⟨fun fn hf => ?_, ?_⟩
  · rw [Tryz.func250] at hf; cases hf; exact plan_ok250
  refine List.forall_mem_cons.2 ⟨fun fn hf => ?_, ?_⟩
  · rw [Tryz.func251] at hf; cases hf; exact plan_ok251
  refine List.forall_mem_cons.2 ⟨fun fn hf => ?_, ?_⟩
  · rw [Tryz.func253] at hf; cases hf; exact plan_ok253
  refine List.forall_mem_cons.2 ⟨fun fn hf => ?_, ?_⟩
  · rw [Tryz.func266] at hf; cases hf; exact plan_ok266
  refine List.forall_mem_cons.2 ⟨fun fn hf => ?_, ?_⟩
  · rw [Tryz.func267] at hf; cases hf; exact plan_ok267
  refine List.forall_mem_cons.2 ⟨fun fn hf => ?_, ?_⟩
  · rw [Tryz.func271] at hf; cases hf; exact plan_ok271
  refine List.forall_mem_cons.2 ⟨fun fn hf => ?_, ?_⟩
  · rw [Tryz.func272] at hf; cases hf; exact plan_ok272
  refine List.forall_mem_cons.2 ⟨fun fn hf => ?_, ?_⟩
  · rw [Tryz.func275] at hf; cases hf; exact plan_ok275
  refine List.forall_mem_cons.2 ⟨fun fn hf => ?_, ?_⟩
  · rw [Tryz.func278] at hf; cases hf; exact plan_ok278
  refine List.forall_mem_cons.2 ⟨fun fn hf => ?_, ?_⟩
  · rw [Tryz.func280] at hf; cases hf; exact plan_ok280
  refine List.forall_mem_cons.2 ⟨fun fn hf => ?_, ?_⟩
  · rw [Tryz.func281] at hf; cases hf; exact plan_ok281
  refine List.forall_mem_cons.2 ⟨fun fn hf => ?_, ?_⟩
  · rw [Tryz.func285] at hf; cases hf; exact plan_ok285
  refine List.forall_mem_cons.2 ⟨fun fn hf => ?_, ?_⟩
  · rw [Tryz.func295] at hf; cases hf; exact plan_ok295
  refine List.forall_mem_cons.2 ⟨fun fn hf => ?_, ?_⟩
  · rw [Tryz.func297] at hf; cases hf; exact plan_ok297
  refine List.forall_mem_cons.2 ⟨fun fn hf => ?_, ?_⟩
  · rw [Tryz.func301] at hf; cases hf; exact plan_ok301
  refine List.forall_mem_cons.2 ⟨fun fn hf => ?_, ?_⟩
  · rw [Tryz.func303] at hf; cases hf; exact plan_ok303
  refine List.forall_mem_cons.2 ⟨fun fn hf => ?_, ?_⟩
  · rw [Tryz.func307] at hf; cases hf; exact plan_ok307
  refine List.forall_mem_cons.2 ⟨fun fn hf => ?_, ?_⟩
  · rw [Tryz.func308] at hf; cases hf; exact plan_ok308
  refine List.forall_mem_cons.2 ⟨fun fn hf => ?_, ?_⟩
  · rw [Tryz.func310] at hf; cases hf; exact plan_ok310
  refine List.forall_mem_cons.2 ⟨fun fn hf => ?_, ?_⟩
  · rw [Tryz.func312] at hf; cases hf; exact plan_ok312
  refine List.forall_mem_cons.2 ⟨fun fn hf => ?_, ?_⟩
  · rw [Tryz.func317] at hf; cases hf; exact plan_ok317
  refine List.forall_mem_cons.2 ⟨fun fn hf => ?_, ?_⟩
  · rw [Tryz.func318] at hf; cases hf; exact plan_ok318
  refine List.forall_mem_cons.2 ⟨fun fn hf => ?_, ?_⟩
  · rw [Tryz.func319] at hf; cases hf; exact plan_ok319
  refine List.forall_mem_cons.2 ⟨fun fn hf => ?_, ?_⟩
  · rw [Tryz.func320] at hf; cases hf; exact plan_ok320
  refine List.forall_mem_cons.2 ⟨fun fn hf => ?_, ?_⟩
  · rw [Tryz.func321] at hf; cases hf; exact plan_ok321
  refine List.forall_mem_cons.2 ⟨fun fn hf => ?_, ?_⟩
  · rw [Tryz.func322] at hf; cases hf; exact plan_ok322
  refine List.forall_mem_cons.2 ⟨fun fn hf => ?_, ?_⟩
  · rw [Tryz.func323] at hf; cases hf; exact plan_ok323
  refine List.forall_mem_cons.2 ⟨fun fn hf => ?_, ?_⟩
  · rw [Tryz.func330] at hf; cases hf; exact plan_ok330
  exact fun x hx => by cases hx
theorem plans_lot3 : ∀ f ∈ ([331, 341, 342, 344, 345, 349, 351, 352, 353, 355, 359, 360, 361, 362, 364, 369, 372, 373, 374, 376, 379, 380, 383, 387, 388, 389, 396, 397, 398, 399, 400, 402, 403, 404, 406, 407, 408, 409, 410, 411] : List Nat), ∀ fn, Tryz.prog.funcs[f]? = some fn → bodyOk plans f fn = true := by
  refine List.forall_mem_cons.2 ⟨fun fn hf => ?_, ?_⟩
  · rw [Tryz.func331] at hf; cases hf; exact plan_ok331
  refine List.forall_mem_cons.2 ⟨fun fn hf => ?_, ?_⟩
  · rw [Tryz.func341] at hf; cases hf; exact plan_ok341
  refine List.forall_mem_cons.2 ⟨fun fn hf => ?_, ?_⟩
  · rw [Tryz.func342] at hf; cases hf; exact plan_ok342
  refine List.forall_mem_cons.2 ⟨fun fn hf => ?_, ?_⟩
  · rw [Tryz.func344] at hf; cases hf; exact plan_ok344
  refine List.forall_mem_cons.2 ⟨fun fn hf => ?_, ?_⟩
  · rw [Tryz.func345] at hf; cases hf; exact plan_ok345
  refine List.forall_mem_cons.2 ⟨fun fn hf => ?_, ?_⟩
  · rw [Tryz.func349] at hf; cases hf; exact plan_ok349
  refine List.forall_mem_cons.2 ⟨fun fn hf => ?_, ?_⟩
  · rw [Tryz.func351] at hf; cases hf; exact plan_ok351
  refine List.forall_mem_cons.2 ⟨fun fn hf => ?_, ?_⟩
  · rw [Tryz.func352] at hf; cases hf; exact plan_ok352
  refine List.forall_mem_cons.2 ⟨fun fn hf => ?_, ?_⟩
  · rw [Tryz.func353] at hf; cases hf; exact plan_ok353
  refine List.forall_mem_cons.2 ⟨fun fn hf => ?_, ?_⟩
  · rw [Tryz.func355] at hf; cases hf; exact plan_ok355
  refine List.forall_mem_cons.2 ⟨fun fn hf => ?_, ?_⟩
  · rw [Tryz.func359] at hf; cases hf; exact plan_ok359
  refine List.forall_mem_cons.2 ⟨fun fn hf => ?_, ?_⟩
  · rw [Tryz.func360] at hf; cases hf; exact plan_ok360
  refine List.forall_mem_cons.2 ⟨fun fn hf => ?_, ?_⟩
  · rw [Tryz.func361] at hf; cases hf; exact plan_ok361
  refine List.forall_mem_cons.2 ⟨fun fn hf => ?_, ?_⟩
  · rw [Tryz.func362] at hf; cases hf; exact plan_ok362
  refine List.forall_mem_cons.2 ⟨fun fn hf => ?_, ?_⟩
  · rw [Tryz.func364] at hf; cases hf; exact plan_ok364
  refine List.forall_mem_cons.2 ⟨fun fn hf => ?_, ?_⟩
  · rw [Tryz.func369] at hf; cases hf; exact plan_ok369
  refine List.forall_mem_cons.2 ⟨fun fn hf => ?_, ?_⟩
  · rw [Tryz.func372] at hf; cases hf; exact plan_ok372
  refine List.forall_mem_cons.2 ⟨fun fn hf => ?_, ?_⟩
  · rw [Tryz.func373] at hf; cases hf; exact plan_ok373
  refine List.forall_mem_cons.2 ⟨fun fn hf => ?_, ?_⟩
  · rw [Tryz.func374] at hf; cases hf; exact plan_ok374
  refine List.forall_mem_cons.2 ⟨fun fn hf => ?_, ?_⟩
  · rw [Tryz.func376] at hf; cases hf; exact plan_ok376
  refine List.forall_mem_cons.2 ⟨fun fn hf => ?_, ?_⟩
  · rw [Tryz.func379] at hf; cases hf; exact plan_ok379
  refine List.forall_mem_cons.2 ⟨fun fn hf => ?_, ?_⟩
  · rw [Tryz.func380] at hf; cases hf; exact plan_ok380
  refine List.forall_mem_cons.2 ⟨fun fn hf => ?_, ?_⟩
  · rw [Tryz.func383] at hf; cases hf; exact plan_ok383
  refine List.forall_mem_cons.2 ⟨fun fn hf => ?_, ?_⟩
  · rw [Tryz.func387] at hf; cases hf; exact plan_ok387
  refine List.forall_mem_cons.2 ⟨fun fn hf => ?_, ?_⟩
  · rw [Tryz.func388] at hf; cases hf; exact plan_ok388
  refine List.forall_mem_cons.2 ⟨fun fn hf => ?_, ?_⟩
  · rw [Tryz.func389] at hf; cases hf; exact plan_ok389
  refine List.forall_mem_cons.2 ⟨fun fn hf => ?_, ?_⟩
  · rw [Tryz.func396] at hf; cases hf; exact plan_ok396
  refine List.forall_mem_cons.2 ⟨fun fn hf => ?_, ?_⟩
  · rw [Tryz.func397] at hf; cases hf; exact plan_ok397
  refine List.forall_mem_cons.2 ⟨fun fn hf => ?_, ?_⟩
  · rw [Tryz.func398] at hf; cases hf; exact plan_ok398
  refine List.forall_mem_cons.2 ⟨fun fn hf => ?_, ?_⟩
  · rw [Tryz.func399] at hf; cases hf; exact plan_ok399
  refine List.forall_mem_cons.2 ⟨fun fn hf => ?_, ?_⟩
  · rw [Tryz.func400] at hf; cases hf; exact plan_ok400
  refine List.forall_mem_cons.2 ⟨fun fn hf => ?_, ?_⟩
  · rw [Tryz.func402] at hf; cases hf; exact plan_ok402
  refine List.forall_mem_cons.2 ⟨fun fn hf => ?_, ?_⟩
  · rw [Tryz.func403] at hf; cases hf; exact plan_ok403
  refine List.forall_mem_cons.2 ⟨fun fn hf => ?_, ?_⟩
  · rw [Tryz.func404] at hf; cases hf; exact plan_ok404
  refine List.forall_mem_cons.2 ⟨fun fn hf => ?_, ?_⟩
  · rw [Tryz.func406] at hf; cases hf; exact plan_ok406
  refine List.forall_mem_cons.2 ⟨fun fn hf => ?_, ?_⟩
  · rw [Tryz.func407] at hf; cases hf; exact plan_ok407
  refine List.forall_mem_cons.2 ⟨fun fn hf => ?_, ?_⟩
  · rw [Tryz.func408] at hf; cases hf; exact plan_ok408
  refine List.forall_mem_cons.2 ⟨fun fn hf => ?_, ?_⟩
  · rw [Tryz.func409] at hf; cases hf; exact plan_ok409
  refine List.forall_mem_cons.2 ⟨fun fn hf => ?_, ?_⟩
  · rw [Tryz.func410] at hf; cases hf; exact plan_ok410
  refine List.forall_mem_cons.2 ⟨fun fn hf => ?_, ?_⟩
  · rw [Tryz.func411] at hf; cases hf; exact plan_ok411
  exact fun x hx => by cases hx
theorem plans_lot4 : ∀ f ∈ ([412, 414, 415, 417, 418, 427, 428, 431, 435, 436, 468, 470, 471, 475, 478, 479, 482, 484, 485, 489, 491, 492, 496, 498, 502, 503, 504, 505] : List Nat), ∀ fn, Tryz.prog.funcs[f]? = some fn → bodyOk plans f fn = true := by
  refine List.forall_mem_cons.2 ⟨fun fn hf => ?_, ?_⟩
  · rw [Tryz.func412] at hf; cases hf; exact plan_ok412
  refine List.forall_mem_cons.2 ⟨fun fn hf => ?_, ?_⟩
  · rw [Tryz.func414] at hf; cases hf; exact plan_ok414
  refine List.forall_mem_cons.2 ⟨fun fn hf => ?_, ?_⟩
  · rw [Tryz.func415] at hf; cases hf; exact plan_ok415
  refine List.forall_mem_cons.2 ⟨fun fn hf => ?_, ?_⟩
  · rw [Tryz.func417] at hf; cases hf; exact plan_ok417
  refine List.forall_mem_cons.2 ⟨fun fn hf => ?_, ?_⟩
  · rw [Tryz.func418] at hf; cases hf; exact plan_ok418
  refine List.forall_mem_cons.2 ⟨fun fn hf => ?_, ?_⟩
  · rw [Tryz.func427] at hf; cases hf; exact plan_ok427
  refine List.forall_mem_cons.2 ⟨fun fn hf => ?_, ?_⟩
  · rw [Tryz.func428] at hf; cases hf; exact plan_ok428
  refine List.forall_mem_cons.2 ⟨fun fn hf => ?_, ?_⟩
  · rw [Tryz.func431] at hf; cases hf; exact plan_ok431
  refine List.forall_mem_cons.2 ⟨fun fn hf => ?_, ?_⟩
  · rw [Tryz.func435] at hf; cases hf; exact plan_ok435
  refine List.forall_mem_cons.2 ⟨fun fn hf => ?_, ?_⟩
  · rw [Tryz.func436] at hf; cases hf; exact plan_ok436
  refine List.forall_mem_cons.2 ⟨fun fn hf => ?_, ?_⟩
  · rw [Tryz.func468] at hf; cases hf; exact plan_ok468
  refine List.forall_mem_cons.2 ⟨fun fn hf => ?_, ?_⟩
  · rw [Tryz.func470] at hf; cases hf; exact plan_ok470
  refine List.forall_mem_cons.2 ⟨fun fn hf => ?_, ?_⟩
  · rw [Tryz.func471] at hf; cases hf; exact plan_ok471
  refine List.forall_mem_cons.2 ⟨fun fn hf => ?_, ?_⟩
  · rw [Tryz.func475] at hf; cases hf; exact plan_ok475
  refine List.forall_mem_cons.2 ⟨fun fn hf => ?_, ?_⟩
  · rw [Tryz.func478] at hf; cases hf; exact plan_ok478
  refine List.forall_mem_cons.2 ⟨fun fn hf => ?_, ?_⟩
  · rw [Tryz.func479] at hf; cases hf; exact plan_ok479
  refine List.forall_mem_cons.2 ⟨fun fn hf => ?_, ?_⟩
  · rw [Tryz.func482] at hf; cases hf; exact plan_ok482
  refine List.forall_mem_cons.2 ⟨fun fn hf => ?_, ?_⟩
  · rw [Tryz.func484] at hf; cases hf; exact plan_ok484
  refine List.forall_mem_cons.2 ⟨fun fn hf => ?_, ?_⟩
  · rw [Tryz.func485] at hf; cases hf; exact plan_ok485
  refine List.forall_mem_cons.2 ⟨fun fn hf => ?_, ?_⟩
  · rw [Tryz.func489] at hf; cases hf; exact plan_ok489
  refine List.forall_mem_cons.2 ⟨fun fn hf => ?_, ?_⟩
  · rw [Tryz.func491] at hf; cases hf; exact plan_ok491
  refine List.forall_mem_cons.2 ⟨fun fn hf => ?_, ?_⟩
  · rw [Tryz.func492] at hf; cases hf; exact plan_ok492
  refine List.forall_mem_cons.2 ⟨fun fn hf => ?_, ?_⟩
  · rw [Tryz.func496] at hf; cases hf; exact plan_ok496
  refine List.forall_mem_cons.2 ⟨fun fn hf => ?_, ?_⟩
  · rw [Tryz.func498] at hf; cases hf; exact plan_ok498
  refine List.forall_mem_cons.2 ⟨fun fn hf => ?_, ?_⟩
  · rw [Tryz.func502] at hf; cases hf; exact plan_ok502
  refine List.forall_mem_cons.2 ⟨fun fn hf => ?_, ?_⟩
  · rw [Tryz.func503] at hf; cases hf; exact plan_ok503
  refine List.forall_mem_cons.2 ⟨fun fn hf => ?_, ?_⟩
  · rw [Tryz.func504] at hf; cases hf; exact plan_ok504
  refine List.forall_mem_cons.2 ⟨fun fn hf => ?_, ?_⟩
  · rw [Tryz.func505] at hf; cases hf; exact plan_ok505
  exact fun x hx => by cases hx
theorem planFs_cut : planFs = [3, 4, 10, 14, 15, 17, 21, 27, 28, 30, 37, 38, 40, 41, 49, 50, 51, 52, 55, 56, 59, 61, 63, 65, 68, 70, 71, 74, 91, 92, 94, 99, 104, 106, 109, 112, 119, 120, 121, 122] ++ [125, 126, 136, 138, 139, 141, 142, 146, 147, 148, 150, 151, 156, 158, 159, 160, 162, 163, 170, 171, 177, 178, 182, 184, 185, 186, 187, 188, 189, 190, 193, 197, 200, 201, 205, 206, 210, 213, 214, 217] ++ [224, 225, 226, 228, 229, 231, 232, 236, 244, 246, 247, 248, 250, 251, 253, 266, 267, 271, 272, 275, 278, 280, 281, 285, 295, 297, 301, 303, 307, 308, 310, 312, 317, 318, 319, 320, 321, 322, 323, 330] ++ [331, 341, 342, 344, 345, 349, 351, 352, 353, 355, 359, 360, 361, 362, 364, 369, 372, 373, 374, 376, 379, 380, 383, 387, 388, 389, 396, 397, 398, 399, 400, 402, 403, 404, 406, 407, 408, 409, 410, 411] ++ [412, 414, 415, 417, 418, 427, 428, 431, 435, 436, 468, 470, 471, 475, 478, 479, 482, 484, 485, 489, 491, 492, 496, 498, 502, 503, 504, 505] := by kernel_rfl
theorem plans_ok : PlansOk Tryz.prog plans := by
  have key : ∀ f fn, Tryz.prog.funcs[f]? = some fn → bodyOk plans f fn = true := by
    intro f fn hf
    have h := List.all_eq_true.1 plans_rest (fn, f) (by rw [List.mem_zipIdx_iff_getElem?]; simpa using hf)
    simp only [Bool.or_eq_true] at h
    rcases h with h | h
    · have h := List.contains_iff_mem.1 h
      rw [planFs_cut] at h
      rcases List.mem_append.1 h with h | h
      rotate_left
      · exact plans_lot4 f h fn hf
      rcases List.mem_append.1 h with h | h
      rotate_left
      · exact plans_lot3 f h fn hf
      rcases List.mem_append.1 h with h | h
      rotate_left
      · exact plans_lot2 f h fn hf
      rcases List.mem_append.1 h with h | h
      rotate_left
      · exact plans_lot1 f h fn hf
      exact plans_lot0 f h fn hf
    · exact h
  refine ⟨fun f fn c hf hc => ?_, fun a ha => by cases ha⟩
  simpa [bodyOk, hc] using key f fn hf

end Go.Proofs.YtnhpfkjblnclnaaGreat

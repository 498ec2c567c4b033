/-
  The plans serve every region that draws its order. Printed by plans.py.
-/
import Derived.Test.YtfiefdkgneilkaaGreatSxs
import Derived.Test.YtfiefdkgneilkaaGreatProg
import Derived.Test.YtfiefdkgneilkaaGreatPls
set_option linter.unusedVariables false
set_option linter.unusedSimpArgs false
namespace Go.Proofs.YtfiefdkgneilkaaGreat
open Go

theorem follows_mixed : Tryz.prog.follows .mixedOrders = true := by kernel_rfl
def bodyOk (pl : Plans) (f : FuncId) (fn : Func) : Bool := match fn.body with
  | some c => codeOk pl f c
  | none => true
set_option maxRecDepth 100000 in
theorem plan_ok3 : bodyOk plans 3 Tryz.f3 = true := by kernel_rfl
set_option maxRecDepth 100000 in
theorem plan_ok8 : bodyOk plans 8 Tryz.f8 = true := by kernel_rfl
set_option maxRecDepth 100000 in
theorem plan_ok14 : bodyOk plans 14 Tryz.f14 = true := by kernel_rfl
set_option maxRecDepth 100000 in
theorem plan_ok15 : bodyOk plans 15 Tryz.f15 = true := by kernel_rfl
set_option maxRecDepth 100000 in
theorem plan_ok20 : bodyOk plans 20 Tryz.f20 = true := by kernel_rfl
set_option maxRecDepth 100000 in
theorem plan_ok22 : bodyOk plans 22 Tryz.f22 = true := by kernel_rfl
set_option maxRecDepth 100000 in
theorem plan_ok24 : bodyOk plans 24 Tryz.f24 = true := by kernel_rfl
set_option maxRecDepth 100000 in
theorem plan_ok27 : bodyOk plans 27 Tryz.f27 = true := by kernel_rfl
set_option maxRecDepth 100000 in
theorem plan_ok28 : bodyOk plans 28 Tryz.f28 = true := by kernel_rfl
set_option maxRecDepth 100000 in
theorem plan_ok31 : bodyOk plans 31 Tryz.f31 = true := by kernel_rfl
set_option maxRecDepth 100000 in
theorem plan_ok39 : bodyOk plans 39 Tryz.f39 = true := by kernel_rfl
set_option maxRecDepth 100000 in
theorem plan_ok41 : bodyOk plans 41 Tryz.f41 = true := by kernel_rfl
set_option maxRecDepth 100000 in
theorem plan_ok42 : bodyOk plans 42 Tryz.f42 = true := by kernel_rfl
set_option maxRecDepth 100000 in
theorem plan_ok50 : bodyOk plans 50 Tryz.f50 = true := by kernel_rfl
set_option maxRecDepth 100000 in
theorem plan_ok60 : bodyOk plans 60 Tryz.f60 = true := by kernel_rfl
set_option maxRecDepth 100000 in
theorem plan_ok64 : bodyOk plans 64 Tryz.f64 = true := by kernel_rfl
set_option maxRecDepth 100000 in
theorem plan_ok65 : bodyOk plans 65 Tryz.f65 = true := by kernel_rfl
set_option maxRecDepth 100000 in
theorem plan_ok68 : bodyOk plans 68 Tryz.f68 = true := by kernel_rfl
set_option maxRecDepth 100000 in
theorem plan_ok69 : bodyOk plans 69 Tryz.f69 = true := by kernel_rfl
set_option maxRecDepth 100000 in
theorem plan_ok70 : bodyOk plans 70 Tryz.f70 = true := by kernel_rfl
set_option maxRecDepth 100000 in
theorem plan_ok71 : bodyOk plans 71 Tryz.f71 = true := by kernel_rfl
set_option maxRecDepth 100000 in
theorem plan_ok72 : bodyOk plans 72 Tryz.f72 = true := by kernel_rfl
set_option maxRecDepth 100000 in
theorem plan_ok74 : bodyOk plans 74 Tryz.f74 = true := by kernel_rfl
set_option maxRecDepth 100000 in
theorem plan_ok75 : bodyOk plans 75 Tryz.f75 = true := by kernel_rfl
set_option maxRecDepth 100000 in
theorem plan_ok76 : bodyOk plans 76 Tryz.f76 = true := by kernel_rfl
set_option maxRecDepth 100000 in
theorem plan_ok77 : bodyOk plans 77 Tryz.f77 = true := by kernel_rfl
set_option maxRecDepth 100000 in
theorem plan_ok78 : bodyOk plans 78 Tryz.f78 = true := by kernel_rfl
set_option maxRecDepth 100000 in
theorem plan_ok81 : bodyOk plans 81 Tryz.f81 = true := by kernel_rfl
set_option maxRecDepth 100000 in
theorem plan_ok85 : bodyOk plans 85 Tryz.f85 = true := by kernel_rfl
set_option maxRecDepth 100000 in
theorem plan_ok87 : bodyOk plans 87 Tryz.f87 = true := by kernel_rfl
set_option maxRecDepth 100000 in
theorem plan_ok90 : bodyOk plans 90 Tryz.f90 = true := by kernel_rfl
set_option maxRecDepth 100000 in
theorem plan_ok92 : bodyOk plans 92 Tryz.f92 = true := by kernel_rfl
set_option maxRecDepth 100000 in
theorem plan_ok93 : bodyOk plans 93 Tryz.f93 = true := by kernel_rfl
set_option maxRecDepth 100000 in
theorem plan_ok96 : bodyOk plans 96 Tryz.f96 = true := by kernel_rfl
set_option maxRecDepth 100000 in
theorem plan_ok97 : bodyOk plans 97 Tryz.f97 = true := by kernel_rfl
set_option maxRecDepth 100000 in
theorem plan_ok98 : bodyOk plans 98 Tryz.f98 = true := by kernel_rfl
set_option maxRecDepth 100000 in
theorem plan_ok99 : bodyOk plans 99 Tryz.f99 = true := by kernel_rfl
set_option maxRecDepth 100000 in
theorem plan_ok100 : bodyOk plans 100 Tryz.f100 = true := by kernel_rfl
set_option maxRecDepth 100000 in
theorem plan_ok101 : bodyOk plans 101 Tryz.f101 = true := by kernel_rfl
set_option maxRecDepth 100000 in
theorem plan_ok102 : bodyOk plans 102 Tryz.f102 = true := by kernel_rfl
set_option maxRecDepth 100000 in
theorem plan_ok117 : bodyOk plans 117 Tryz.f117 = true := by kernel_rfl
set_option maxRecDepth 100000 in
theorem plan_ok120 : bodyOk plans 120 Tryz.f120 = true := by kernel_rfl
set_option maxRecDepth 100000 in
theorem plan_ok124 : bodyOk plans 124 Tryz.f124 = true := by kernel_rfl
set_option maxRecDepth 100000 in
theorem plan_ok127 : bodyOk plans 127 Tryz.f127 = true := by kernel_rfl
set_option maxRecDepth 100000 in
theorem plan_ok137 : bodyOk plans 137 Tryz.f137 = true := by kernel_rfl
set_option maxRecDepth 100000 in
theorem plan_ok138 : bodyOk plans 138 Tryz.f138 = true := by kernel_rfl
set_option maxRecDepth 100000 in
theorem plan_ok144 : bodyOk plans 144 Tryz.f144 = true := by kernel_rfl
set_option maxRecDepth 100000 in
theorem plan_ok146 : bodyOk plans 146 Tryz.f146 = true := by kernel_rfl
set_option maxRecDepth 100000 in
theorem plan_ok156 : bodyOk plans 156 Tryz.f156 = true := by kernel_rfl
set_option maxRecDepth 100000 in
theorem plan_ok160 : bodyOk plans 160 Tryz.f160 = true := by kernel_rfl
set_option maxRecDepth 100000 in
theorem plan_ok161 : bodyOk plans 161 Tryz.f161 = true := by kernel_rfl
set_option maxRecDepth 100000 in
theorem plan_ok163 : bodyOk plans 163 Tryz.f163 = true := by kernel_rfl
set_option maxRecDepth 100000 in
theorem plan_ok165 : bodyOk plans 165 Tryz.f165 = true := by kernel_rfl
set_option maxRecDepth 100000 in
theorem plan_ok167 : bodyOk plans 167 Tryz.f167 = true := by kernel_rfl
set_option maxRecDepth 100000 in
theorem plan_ok173 : bodyOk plans 173 Tryz.f173 = true := by kernel_rfl
set_option maxRecDepth 100000 in
theorem plan_ok174 : bodyOk plans 174 Tryz.f174 = true := by kernel_rfl
set_option maxRecDepth 100000 in
theorem plan_ok179 : bodyOk plans 179 Tryz.f179 = true := by kernel_rfl
set_option maxRecDepth 100000 in
theorem plan_ok180 : bodyOk plans 180 Tryz.f180 = true := by kernel_rfl
set_option maxRecDepth 100000 in
theorem plan_ok185 : bodyOk plans 185 Tryz.f185 = true := by kernel_rfl
set_option maxRecDepth 100000 in
theorem plan_ok187 : bodyOk plans 187 Tryz.f187 = true := by kernel_rfl
set_option maxRecDepth 100000 in
theorem plan_ok191 : bodyOk plans 191 Tryz.f191 = true := by kernel_rfl
set_option maxRecDepth 100000 in
theorem plan_ok196 : bodyOk plans 196 Tryz.f196 = true := by kernel_rfl
set_option maxRecDepth 100000 in
theorem plan_ok197 : bodyOk plans 197 Tryz.f197 = true := by kernel_rfl
set_option maxRecDepth 100000 in
theorem plan_ok198 : bodyOk plans 198 Tryz.f198 = true := by kernel_rfl
set_option maxRecDepth 100000 in
theorem plan_ok199 : bodyOk plans 199 Tryz.f199 = true := by kernel_rfl
set_option maxRecDepth 100000 in
theorem plan_ok200 : bodyOk plans 200 Tryz.f200 = true := by kernel_rfl
set_option maxRecDepth 100000 in
theorem plan_ok203 : bodyOk plans 203 Tryz.f203 = true := by kernel_rfl
set_option maxRecDepth 100000 in
theorem plan_ok204 : bodyOk plans 204 Tryz.f204 = true := by kernel_rfl
set_option maxRecDepth 100000 in
theorem plan_ok210 : bodyOk plans 210 Tryz.f210 = true := by kernel_rfl
set_option maxRecDepth 100000 in
theorem plan_ok212 : bodyOk plans 212 Tryz.f212 = true := by kernel_rfl
set_option maxRecDepth 100000 in
theorem plan_ok213 : bodyOk plans 213 Tryz.f213 = true := by kernel_rfl
set_option maxRecDepth 100000 in
theorem plan_ok217 : bodyOk plans 217 Tryz.f217 = true := by kernel_rfl
set_option maxRecDepth 100000 in
theorem plan_ok225 : bodyOk plans 225 Tryz.f225 = true := by kernel_rfl
set_option maxRecDepth 100000 in
theorem plan_ok226 : bodyOk plans 226 Tryz.f226 = true := by kernel_rfl
set_option maxRecDepth 100000 in
theorem plan_ok228 : bodyOk plans 228 Tryz.f228 = true := by kernel_rfl
set_option maxRecDepth 100000 in
theorem plan_ok229 : bodyOk plans 229 Tryz.f229 = true := by kernel_rfl
set_option maxRecDepth 100000 in
theorem plan_ok231 : bodyOk plans 231 Tryz.f231 = true := by kernel_rfl
set_option maxRecDepth 100000 in
theorem plan_ok239 : bodyOk plans 239 Tryz.f239 = true := by kernel_rfl
set_option maxRecDepth 100000 in
theorem plan_ok241 : bodyOk plans 241 Tryz.f241 = true := by kernel_rfl
set_option maxRecDepth 100000 in
theorem plan_ok242 : bodyOk plans 242 Tryz.f242 = true := by kernel_rfl
set_option maxRecDepth 100000 in
theorem plan_ok243 : bodyOk plans 243 Tryz.f243 = true := by kernel_rfl
set_option maxRecDepth 100000 in
theorem plan_ok245 : bodyOk plans 245 Tryz.f245 = true := by kernel_rfl
set_option maxRecDepth 100000 in
theorem plan_ok246 : bodyOk plans 246 Tryz.f246 = true := by kernel_rfl
set_option maxRecDepth 100000 in
theorem plan_ok248 : bodyOk plans 248 Tryz.f248 = true := by kernel_rfl
set_option maxRecDepth 100000 in
theorem plan_ok250 : bodyOk plans 250 Tryz.f250 = true := by kernel_rfl
set_option maxRecDepth 100000 in
theorem plan_ok251 : bodyOk plans 251 Tryz.f251 = true := by kernel_rfl
set_option maxRecDepth 100000 in
theorem plan_ok253 : bodyOk plans 253 Tryz.f253 = true := by kernel_rfl
set_option maxRecDepth 100000 in
theorem plan_ok254 : bodyOk plans 254 Tryz.f254 = true := by kernel_rfl
set_option maxRecDepth 100000 in
theorem plan_ok256 : bodyOk plans 256 Tryz.f256 = true := by kernel_rfl
set_option maxRecDepth 100000 in
theorem plan_ok257 : bodyOk plans 257 Tryz.f257 = true := by kernel_rfl
set_option maxRecDepth 100000 in
theorem plan_ok260 : bodyOk plans 260 Tryz.f260 = true := by kernel_rfl
set_option maxRecDepth 100000 in
theorem plan_ok261 : bodyOk plans 261 Tryz.f261 = true := by kernel_rfl
set_option maxRecDepth 100000 in
theorem plan_ok265 : bodyOk plans 265 Tryz.f265 = true := by kernel_rfl
set_option maxRecDepth 100000 in
theorem plan_ok266 : bodyOk plans 266 Tryz.f266 = true := by kernel_rfl
set_option maxRecDepth 100000 in
theorem plan_ok267 : bodyOk plans 267 Tryz.f267 = true := by kernel_rfl
set_option maxRecDepth 100000 in
theorem plan_ok268 : bodyOk plans 268 Tryz.f268 = true := by kernel_rfl
set_option maxRecDepth 100000 in
theorem plan_ok269 : bodyOk plans 269 Tryz.f269 = true := by kernel_rfl
set_option maxRecDepth 100000 in
theorem plan_ok270 : bodyOk plans 270 Tryz.f270 = true := by kernel_rfl
set_option maxRecDepth 100000 in
theorem plan_ok271 : bodyOk plans 271 Tryz.f271 = true := by kernel_rfl
set_option maxRecDepth 100000 in
theorem plan_ok276 : bodyOk plans 276 Tryz.f276 = true := by kernel_rfl
set_option maxRecDepth 100000 in
theorem plan_ok277 : bodyOk plans 277 Tryz.f277 = true := by kernel_rfl
set_option maxRecDepth 100000 in
theorem plan_ok278 : bodyOk plans 278 Tryz.f278 = true := by kernel_rfl
set_option maxRecDepth 100000 in
theorem plan_ok282 : bodyOk plans 282 Tryz.f282 = true := by kernel_rfl
set_option maxRecDepth 100000 in
theorem plan_ok289 : bodyOk plans 289 Tryz.f289 = true := by kernel_rfl
set_option maxRecDepth 100000 in
theorem plan_ok290 : bodyOk plans 290 Tryz.f290 = true := by kernel_rfl
set_option maxRecDepth 100000 in
theorem plan_ok294 : bodyOk plans 294 Tryz.f294 = true := by kernel_rfl
set_option maxRecDepth 100000 in
theorem plan_ok295 : bodyOk plans 295 Tryz.f295 = true := by kernel_rfl
set_option maxRecDepth 100000 in
theorem plan_ok297 : bodyOk plans 297 Tryz.f297 = true := by kernel_rfl
set_option maxRecDepth 100000 in
theorem plan_ok298 : bodyOk plans 298 Tryz.f298 = true := by kernel_rfl
set_option maxRecDepth 100000 in
theorem plan_ok299 : bodyOk plans 299 Tryz.f299 = true := by kernel_rfl
set_option maxRecDepth 100000 in
theorem plan_ok302 : bodyOk plans 302 Tryz.f302 = true := by kernel_rfl
set_option maxRecDepth 100000 in
theorem plan_ok308 : bodyOk plans 308 Tryz.f308 = true := by kernel_rfl
set_option maxRecDepth 100000 in
theorem plan_ok310 : bodyOk plans 310 Tryz.f310 = true := by kernel_rfl
set_option maxRecDepth 100000 in
theorem plan_ok311 : bodyOk plans 311 Tryz.f311 = true := by kernel_rfl
set_option maxRecDepth 100000 in
theorem plan_ok321 : bodyOk plans 321 Tryz.f321 = true := by kernel_rfl
set_option maxRecDepth 100000 in
theorem plan_ok328 : bodyOk plans 328 Tryz.f328 = true := by kernel_rfl
set_option maxRecDepth 100000 in
theorem plan_ok332 : bodyOk plans 332 Tryz.f332 = true := by kernel_rfl
set_option maxRecDepth 100000 in
theorem plan_ok333 : bodyOk plans 333 Tryz.f333 = true := by kernel_rfl
set_option maxRecDepth 100000 in
theorem plan_ok335 : bodyOk plans 335 Tryz.f335 = true := by kernel_rfl
set_option maxRecDepth 100000 in
theorem plan_ok336 : bodyOk plans 336 Tryz.f336 = true := by kernel_rfl
set_option maxRecDepth 100000 in
theorem plan_ok339 : bodyOk plans 339 Tryz.f339 = true := by kernel_rfl
set_option maxRecDepth 100000 in
theorem plan_ok340 : bodyOk plans 340 Tryz.f340 = true := by kernel_rfl
set_option maxRecDepth 100000 in
theorem plan_ok341 : bodyOk plans 341 Tryz.f341 = true := by kernel_rfl
set_option maxRecDepth 100000 in
theorem plan_ok343 : bodyOk plans 343 Tryz.f343 = true := by kernel_rfl
set_option maxRecDepth 100000 in
theorem plan_ok344 : bodyOk plans 344 Tryz.f344 = true := by kernel_rfl
set_option maxRecDepth 100000 in
theorem plan_ok346 : bodyOk plans 346 Tryz.f346 = true := by kernel_rfl
set_option maxRecDepth 100000 in
theorem plan_ok347 : bodyOk plans 347 Tryz.f347 = true := by kernel_rfl
set_option maxRecDepth 100000 in
theorem plan_ok350 : bodyOk plans 350 Tryz.f350 = true := by kernel_rfl
set_option maxRecDepth 100000 in
theorem plan_ok353 : bodyOk plans 353 Tryz.f353 = true := by kernel_rfl
set_option maxRecDepth 100000 in
theorem plan_ok354 : bodyOk plans 354 Tryz.f354 = true := by kernel_rfl
set_option maxRecDepth 100000 in
theorem plan_ok355 : bodyOk plans 355 Tryz.f355 = true := by kernel_rfl
set_option maxRecDepth 100000 in
theorem plan_ok357 : bodyOk plans 357 Tryz.f357 = true := by kernel_rfl
set_option maxRecDepth 100000 in
theorem plan_ok358 : bodyOk plans 358 Tryz.f358 = true := by kernel_rfl
set_option maxRecDepth 100000 in
theorem plan_ok359 : bodyOk plans 359 Tryz.f359 = true := by kernel_rfl
set_option maxRecDepth 100000 in
theorem plan_ok360 : bodyOk plans 360 Tryz.f360 = true := by kernel_rfl
set_option maxRecDepth 100000 in
theorem plan_ok361 : bodyOk plans 361 Tryz.f361 = true := by kernel_rfl
set_option maxRecDepth 100000 in
theorem plan_ok367 : bodyOk plans 367 Tryz.f367 = true := by kernel_rfl
set_option maxRecDepth 100000 in
theorem plan_ok380 : bodyOk plans 380 Tryz.f380 = true := by kernel_rfl
set_option maxRecDepth 100000 in
theorem plan_ok382 : bodyOk plans 382 Tryz.f382 = true := by kernel_rfl
set_option maxRecDepth 100000 in
theorem plan_ok384 : bodyOk plans 384 Tryz.f384 = true := by kernel_rfl
set_option maxRecDepth 100000 in
theorem plan_ok388 : bodyOk plans 388 Tryz.f388 = true := by kernel_rfl
set_option maxRecDepth 100000 in
theorem plan_ok389 : bodyOk plans 389 Tryz.f389 = true := by kernel_rfl
set_option maxRecDepth 100000 in
theorem plan_ok390 : bodyOk plans 390 Tryz.f390 = true := by kernel_rfl
set_option maxRecDepth 100000 in
theorem plan_ok392 : bodyOk plans 392 Tryz.f392 = true := by kernel_rfl
set_option maxRecDepth 100000 in
theorem plan_ok393 : bodyOk plans 393 Tryz.f393 = true := by kernel_rfl
set_option maxRecDepth 100000 in
theorem plan_ok395 : bodyOk plans 395 Tryz.f395 = true := by kernel_rfl
set_option maxRecDepth 100000 in
theorem plan_ok396 : bodyOk plans 396 Tryz.f396 = true := by kernel_rfl
set_option maxRecDepth 100000 in
theorem plan_ok399 : bodyOk plans 399 Tryz.f399 = true := by kernel_rfl
set_option maxRecDepth 100000 in
theorem plan_ok404 : bodyOk plans 404 Tryz.f404 = true := by kernel_rfl
set_option maxRecDepth 100000 in
theorem plan_ok406 : bodyOk plans 406 Tryz.f406 = true := by kernel_rfl
set_option maxRecDepth 100000 in
theorem plan_ok410 : bodyOk plans 410 Tryz.f410 = true := by kernel_rfl
set_option maxRecDepth 100000 in
theorem plan_ok415 : bodyOk plans 415 Tryz.f415 = true := by kernel_rfl
set_option maxRecDepth 100000 in
theorem plan_ok416 : bodyOk plans 416 Tryz.f416 = true := by kernel_rfl
set_option maxRecDepth 100000 in
theorem plan_ok417 : bodyOk plans 417 Tryz.f417 = true := by kernel_rfl
set_option maxRecDepth 100000 in
theorem plan_ok420 : bodyOk plans 420 Tryz.f420 = true := by kernel_rfl
set_option maxRecDepth 100000 in
theorem plan_ok421 : bodyOk plans 421 Tryz.f421 = true := by kernel_rfl
set_option maxRecDepth 100000 in
theorem plan_ok424 : bodyOk plans 424 Tryz.f424 = true := by kernel_rfl
set_option maxRecDepth 100000 in
theorem plan_ok425 : bodyOk plans 425 Tryz.f425 = true := by kernel_rfl
set_option maxRecDepth 100000 in
theorem plan_ok429 : bodyOk plans 429 Tryz.f429 = true := by kernel_rfl
set_option maxRecDepth 100000 in
theorem plan_ok432 : bodyOk plans 432 Tryz.f432 = true := by kernel_rfl
set_option maxRecDepth 100000 in
theorem plan_ok433 : bodyOk plans 433 Tryz.f433 = true := by kernel_rfl
set_option maxRecDepth 100000 in
theorem plan_ok434 : bodyOk plans 434 Tryz.f434 = true := by kernel_rfl
set_option maxRecDepth 100000 in
theorem plan_ok435 : bodyOk plans 435 Tryz.f435 = true := by kernel_rfl
set_option maxRecDepth 100000 in
theorem plan_ok436 : bodyOk plans 436 Tryz.f436 = true := by kernel_rfl
set_option maxRecDepth 100000 in
theorem plan_ok437 : bodyOk plans 437 Tryz.f437 = true := by kernel_rfl
set_option maxRecDepth 100000 in
theorem plan_ok438 : bodyOk plans 438 Tryz.f438 = true := by kernel_rfl
set_option maxRecDepth 100000 in
theorem plan_ok440 : bodyOk plans 440 Tryz.f440 = true := by kernel_rfl
set_option maxRecDepth 100000 in
theorem plan_ok441 : bodyOk plans 441 Tryz.f441 = true := by kernel_rfl
set_option maxRecDepth 100000 in
theorem plan_ok442 : bodyOk plans 442 Tryz.f442 = true := by kernel_rfl
set_option maxRecDepth 100000 in
theorem plan_ok443 : bodyOk plans 443 Tryz.f443 = true := by kernel_rfl
set_option maxRecDepth 100000 in
theorem plan_ok444 : bodyOk plans 444 Tryz.f444 = true := by kernel_rfl
set_option maxRecDepth 100000 in
theorem plan_ok447 : bodyOk plans 447 Tryz.f447 = true := by kernel_rfl
set_option maxRecDepth 100000 in
theorem plan_ok471 : bodyOk plans 471 Tryz.f471 = true := by kernel_rfl
set_option maxRecDepth 100000 in
theorem plan_ok473 : bodyOk plans 473 Tryz.f473 = true := by kernel_rfl
set_option maxRecDepth 100000 in
theorem plan_ok474 : bodyOk plans 474 Tryz.f474 = true := by kernel_rfl
set_option maxRecDepth 100000 in
theorem plan_ok477 : bodyOk plans 477 Tryz.f477 = true := by kernel_rfl
set_option maxRecDepth 100000 in
theorem plan_ok479 : bodyOk plans 479 Tryz.f479 = true := by kernel_rfl
set_option maxRecDepth 100000 in
theorem plan_ok480 : bodyOk plans 480 Tryz.f480 = true := by kernel_rfl
set_option maxRecDepth 100000 in
theorem plan_ok482 : bodyOk plans 482 Tryz.f482 = true := by kernel_rfl
set_option maxRecDepth 100000 in
theorem plan_ok484 : bodyOk plans 484 Tryz.f484 = true := by kernel_rfl
set_option maxRecDepth 100000 in
theorem plan_ok485 : bodyOk plans 485 Tryz.f485 = true := by kernel_rfl
set_option maxRecDepth 100000 in
theorem plan_ok489 : bodyOk plans 489 Tryz.f489 = true := by kernel_rfl
set_option maxRecDepth 100000 in
theorem plan_ok490 : bodyOk plans 490 Tryz.f490 = true := by kernel_rfl
set_option maxRecDepth 100000 in
theorem plan_ok491 : bodyOk plans 491 Tryz.f491 = true := by kernel_rfl
set_option maxRecDepth 100000 in
theorem plan_ok495 : bodyOk plans 495 Tryz.f495 = true := by kernel_rfl
set_option maxRecDepth 100000 in
theorem plan_ok496 : bodyOk plans 496 Tryz.f496 = true := by kernel_rfl
def planFs : List Nat := [3, 8, 14, 15, 20, 22, 24, 27, 28, 31, 39, 41, 42, 50, 60, 64, 65, 68, 69, 70, 71, 72, 74, 75, 76, 77, 78, 81, 85, 87, 90, 92, 93, 96, 97, 98, 99, 100, 101, 102, 117, 120, 124, 127, 137, 138, 144, 146, 156, 160, 161, 163, 165, 167, 173, 174, 179, 180, 185, 187, 191, 196, 197, 198, 199, 200, 203, 204, 210, 212, 213, 217, 225, 226, 228, 229, 231, 239, 241, 242, 243, 245, 246, 248, 250, 251, 253, 254, 256, 257, 260, 261, 265, 266, 267, 268, 269, 270, 271, 276, 277, 278, 282, 289, 290, 294, 295, 297, 298, 299, 302, 308, 310, 311, 321, 328, 332, 333, 335, 336, 339, 340, 341, 343, 344, 346, 347, 350, 353, 354, 355, 357, 358, 359, 360, 361, 367, 380, 382, 384, 388, 389, 390, 392, 393, 395, 396, 399, 404, 406, 410, 415, 416, 417, 420, 421, 424, 425, 429, 432, 433, 434, 435, 436, 437, 438, 440, 441, 442, 443, 444, 447, 471, 473, 474, 477, 479, 480, 482, 484, 485, 489, 490, 491, 495, 496]
set_option maxRecDepth 100000 in
theorem plans_rest : (Tryz.prog.funcs.toList.zipIdx.all fun x => planFs.contains x.2 || bodyOk plans x.2 x.1) = true := by kernel_rfl
theorem plans_lot0 : ∀ f ∈ ([3, 8, 14, 15, 20, 22, 24, 27, 28, 31, 39, 41, 42, 50, 60, 64, 65, 68, 69, 70, 71, 72, 74, 75, 76, 77, 78, 81, 85, 87, 90, 92, 93, 96, 97, 98, 99, 100, 101, 102] : List Nat), ∀ fn, Tryz.prog.funcs[f]? = some fn → bodyOk plans f fn = true := by
  refine List.forall_mem_cons.2 ⟨fun fn hf => ?_, ?_⟩
  · rw [Tryz.func3] at hf; cases hf; exact plan_ok3
  refine List.forall_mem_cons.2 ⟨fun fn hf => ?_, ?_⟩
  · rw [Tryz.func8] at hf; cases hf; exact plan_ok8
  refine List.forall_mem_cons.2 ⟨fun fn hf => ?_, ?_⟩
  · rw [Tryz.func14] at hf; cases hf; exact plan_ok14
  refine List.forall_mem_cons.2 ⟨fun fn hf => ?_, ?_⟩
  · rw [Tryz.func15] at hf; cases hf; exact plan_ok15
  refine List.forall_mem_cons.2 ⟨fun fn hf => ?_, ?_⟩
  · rw [Tryz.func20] at hf; cases hf; exact plan_ok20
  refine List.forall_mem_cons.2 ⟨fun fn hf => ?_, ?_⟩
  · rw [Tryz.func22] at hf; cases hf; exact plan_ok22
  refine List.forall_mem_cons.2 ⟨fun fn hf => ?_, ?_⟩
  · rw [Tryz.func24] at hf; cases hf; exact plan_ok24
  refine List.forall_mem_cons.2 ⟨fun fn hf => ?_, ?_⟩
  · rw [Tryz.func27] at hf; cases hf; exact plan_ok27
  refine List.forall_mem_cons.2 ⟨fun fn hf => ?_, ?_⟩
  · rw [Tryz.func28] at hf; cases hf; exact plan_ok28
  refine List.forall_mem_cons.2 ⟨fun fn hf => ?_, ?_⟩
  · rw [Tryz.func31] at hf; cases hf; exact plan_ok31
  refine List.forall_mem_cons.2 ⟨fun fn hf => ?_, ?_⟩
  · rw [Tryz.func39] at hf; cases hf; exact plan_ok39
  refine List.forall_mem_cons.2 ⟨fun fn hf => ?_, ?_⟩
  · rw [Tryz.func41] at hf; cases hf; exact plan_ok41
  refine List.forall_mem_cons.2 ⟨fun fn hf => ?_, ?_⟩
  · rw [Tryz.func42] at hf; cases hf; exact plan_ok42
  refine List.forall_mem_cons.2 ⟨fun fn hf => ?_, ?_⟩
  · rw [Tryz.func50] at hf; cases hf; exact plan_ok50
  refine List.forall_mem_cons.2 ⟨fun fn hf => ?_, ?_⟩
  · rw [Tryz.func60] at hf; cases hf; exact plan_ok60
  refine List.forall_mem_cons.2 ⟨fun fn hf => ?_, ?_⟩
  · rw [Tryz.func64] at hf; cases hf; exact plan_ok64
  refine List.forall_mem_cons.2 ⟨fun fn hf => ?_, ?_⟩
  · rw [Tryz.func65] at hf; cases hf; exact plan_ok65
  refine List.forall_mem_cons.2 ⟨fun fn hf => ?_, ?_⟩
  · rw [Tryz.func68] at hf; cases hf; exact plan_ok68
  refine List.forall_mem_cons.2 ⟨fun fn hf => ?_, ?_⟩
  · rw [Tryz.func69] at hf; cases hf; exact plan_ok69
  refine List.forall_mem_cons.2 ⟨fun fn hf => ?_, ?_⟩
  · rw [Tryz.func70] at hf; cases hf; exact plan_ok70
  refine List.forall_mem_cons.2 ⟨fun fn hf => ?_, ?_⟩
  · rw [Tryz.func71] at hf; cases hf; exact plan_ok71
  refine List.forall_mem_cons.2 ⟨fun fn hf => ?_, ?_⟩
  · rw [Tryz.func72] at hf; cases hf; exact plan_ok72
  refine List.forall_mem_cons.2 ⟨fun fn hf => ?_, ?_⟩
  · rw [Tryz.func74] at hf; cases hf; exact plan_ok74
  refine List.forall_mem_cons.2 ⟨fun fn hf => ?_, ?_⟩
  · rw [Tryz.func75] at hf; cases hf; exact plan_ok75
  refine List.forall_mem_cons.2 ⟨fun fn hf => ?_, ?_⟩
  · rw [Tryz.func76] at hf; cases hf; exact plan_ok76
  refine List.forall_mem_cons.2 ⟨fun fn hf => ?_, ?_⟩
  · rw [Tryz.func77] at hf; cases hf; exact plan_ok77
  refine List.forall_mem_cons.2 ⟨fun fn hf => ?_, ?_⟩
  · rw [Tryz.func78] at hf; cases hf; exact plan_ok78
  refine List.forall_mem_cons.2 ⟨fun fn hf => ?_, ?_⟩
  · rw [Tryz.func81] at hf; cases hf; exact plan_ok81
  refine List.forall_mem_cons.2 ⟨fun fn hf => ?_, ?_⟩
  · rw [Tryz.func85] at hf; cases hf; exact plan_ok85
  refine List.forall_mem_cons.2 ⟨fun fn hf => ?_, ?_⟩
  · rw [Tryz.func87] at hf; cases hf; exact plan_ok87
  refine List.forall_mem_cons.2 ⟨fun fn hf => ?_, ?_⟩
  · rw [Tryz.func90] at hf; cases hf; exact plan_ok90
  refine List.forall_mem_cons.2 ⟨fun fn hf => ?_, ?_⟩
  · rw [Tryz.func92] at hf; cases hf; exact plan_ok92
  refine List.forall_mem_cons.2 ⟨fun fn hf => ?_, ?_⟩
  · rw [Tryz.func93] at hf; cases hf; exact plan_ok93
  refine List.forall_mem_cons.2 ⟨fun fn hf => ?_, ?_⟩
  · rw [Tryz.func96] at hf; cases hf; exact plan_ok96
  refine List.forall_mem_cons.2 ⟨fun fn hf => ?_, ?_⟩
  · rw [Tryz.func97] at hf; cases hf; exact plan_ok97
  refine List.forall_mem_cons.2 ⟨fun fn hf => ?_, ?_⟩
  · rw [Tryz.func98] at hf; cases hf; exact plan_ok98
  refine List.forall_mem_cons.2 ⟨fun fn hf => ?_, ?_⟩
  · rw [Tryz.func99] at hf; cases hf; exact plan_ok99
  refine List.forall_mem_cons.2 ⟨fun fn hf => ?_, ?_⟩
  · rw [Tryz.func100] at hf; cases hf; exact plan_ok100
  refine List.forall_mem_cons.2 ⟨fun fn hf => ?_, ?_⟩
  · rw [Tryz.func101] at hf; cases hf; exact plan_ok101
  refine List.forall_mem_cons.2 ⟨fun fn hf => ?_, ?_⟩
  · rw [Tryz.func102] at hf; cases hf; exact plan_ok102
  exact fun x hx => by cases hx
theorem plans_lot1 : ∀ f ∈ ([117, 120, 124, 127, 137, 138, 144, 146, 156, 160, 161, 163, 165, 167, 173, 174, 179, 180, 185, 187, 191, 196, 197, 198, 199, 200, 203, 204, 210, 212, 213, 217, 225, 226, 228, 229, 231, 239, 241, 242] : List Nat), ∀ fn, Tryz.prog.funcs[f]? = some fn → bodyOk plans f fn = true := by
  refine List.forall_mem_cons.2 ⟨fun fn hf => ?_, ?_⟩
  · rw [Tryz.func117] at hf; cases hf; exact plan_ok117
  refine List.forall_mem_cons.2 ⟨fun fn hf => ?_, ?_⟩
  · rw [Tryz.func120] at hf; cases hf; exact plan_ok120
  refine List.forall_mem_cons.2 ⟨fun fn hf => ?_, ?_⟩
  · rw [Tryz.func124] at hf; cases hf; exact plan_ok124
  refine List.forall_mem_cons.2 ⟨fun fn hf => ?_, ?_⟩
  · rw [Tryz.func127] at hf; cases hf; exact plan_ok127
  refine List.forall_mem_cons.2 ⟨fun fn hf => ?_, ?_⟩
  · rw [Tryz.func137] at hf; cases hf; exact plan_ok137
  refine List.forall_mem_cons.2 ⟨fun fn hf => ?_, ?_⟩
  · rw [Tryz.func138] at hf; cases hf; exact plan_ok138
  refine List.forall_mem_cons.2 ⟨fun fn hf => ?_, ?_⟩
  · rw [Tryz.func144] at hf; cases hf; exact plan_ok144
  refine List.forall_mem_cons.2 ⟨fun fn hf => ?_, ?_⟩
  · rw [Tryz.func146] at hf; cases hf; exact plan_ok146
  refine List.forall_mem_cons.2 ⟨fun fn hf => ?_, ?_⟩
  · rw [Tryz.func156] at hf; cases hf; exact plan_ok156
  refine List.forall_mem_cons.2 ⟨fun fn hf => ?_, ?_⟩
  · rw [Tryz.func160] at hf; cases hf; exact plan_ok160
  refine List.forall_mem_cons.2 ⟨fun fn hf => ?_, ?_⟩
  · rw [Tryz.func161] at hf; cases hf; exact plan_ok161
  refine List.forall_mem_cons.2 ⟨fun fn hf => ?_, ?_⟩
  · rw [Tryz.func163] at hf; cases hf; exact plan_ok163
  refine List.forall_mem_cons.2 ⟨fun fn hf => ?_, ?_⟩
  · rw [Tryz.func165] at hf; cases hf; exact plan_ok165
  refine List.forall_mem_cons.2 ⟨fun fn hf => ?_, ?_⟩
  · rw [Tryz.func167] at hf; cases hf; exact plan_ok167
  refine List.forall_mem_cons.2 ⟨fun fn hf => ?_, ?_⟩
  · rw [Tryz.func173] at hf; cases hf; exact plan_ok173
  refine List.forall_mem_cons.2 ⟨fun fn hf => ?_, ?_⟩
  · rw [Tryz.func174] at hf; cases hf; exact plan_ok174
  refine List.forall_mem_cons.2 ⟨fun fn hf => ?_, ?_⟩
  · rw [Tryz.func179] at hf; cases hf; exact plan_ok179
  refine List.forall_mem_cons.2 ⟨fun fn hf => ?_, ?_⟩
  · rw [Tryz.func180] at hf; cases hf; exact plan_ok180
  refine List.forall_mem_cons.2 ⟨fun fn hf => ?_, ?_⟩
  · rw [Tryz.func185] at hf; cases hf; exact plan_ok185
  refine List.forall_mem_cons.2 ⟨fun fn hf => ?_, ?_⟩
  · rw [Tryz.func187] at hf; cases hf; exact plan_ok187
  refine List.forall_mem_cons.2 ⟨fun fn hf => ?_, ?_⟩
  · rw [Tryz.func191] at hf; cases hf; exact plan_ok191
  refine List.forall_mem_cons.2 ⟨fun fn hf => ?_, ?_⟩
  · rw [Tryz.func196] at hf; cases hf; exact plan_ok196
  refine List.forall_mem_cons.2 ⟨fun fn hf => ?_, ?_⟩
  · rw [Tryz.func197] at hf; cases hf; exact plan_ok197
  refine List.forall_mem_cons.2 ⟨fun fn hf => ?_, ?_⟩
  · rw [Tryz.func198] at hf; cases hf; exact plan_ok198
  refine List.forall_mem_cons.2 ⟨fun fn hf => ?_, ?_⟩
  · rw [Tryz.func199] at hf; cases hf; exact plan_ok199
  refine List.forall_mem_cons.2 ⟨fun fn hf => ?_, ?_⟩
  · rw [Tryz.func200] at hf; cases hf; exact plan_ok200
  refine List.forall_mem_cons.2 ⟨fun fn hf => ?_, ?_⟩
  · rw [Tryz.func203] at hf; cases hf; exact plan_ok203
  refine List.forall_mem_cons.2 ⟨fun fn hf => ?_, ?_⟩
  · rw [Tryz.func204] at hf; cases hf; exact plan_ok204
  refine List.forall_mem_cons.2 ⟨fun fn hf => ?_, ?_⟩
  · rw [Tryz.func210] at hf; cases hf; exact plan_ok210
  refine List.forall_mem_cons.2 ⟨fun fn hf => ?_, ?_⟩
  · rw [Tryz.func212] at hf; cases hf; exact plan_ok212
  refine List.forall_mem_cons.2 ⟨fun fn hf => ?_, ?_⟩
  · rw [Tryz.func213] at hf; cases hf; exact plan_ok213
  refine List.forall_mem_cons.2 ⟨fun fn hf => ?_, ?_⟩
  · rw [Tryz.func217] at hf; cases hf; exact plan_ok217
  refine List.forall_mem_cons.2 ⟨fun fn hf => ?_, ?_⟩
  · rw [Tryz.func225] at hf; cases hf; exact plan_ok225
  refine List.forall_mem_cons.2 ⟨fun fn hf => ?_, ?_⟩
  · rw [Tryz.func226] at hf; cases hf; exact plan_ok226
  refine List.forall_mem_cons.2 ⟨fun fn hf => ?_, ?_⟩
  · rw [Tryz.func228] at hf; cases hf; exact plan_ok228
  refine List.forall_mem_cons.2 ⟨fun fn hf => ?_, ?_⟩
  · rw [Tryz.func229] at hf; cases hf; exact plan_ok229
  refine List.forall_mem_cons.2 ⟨fun fn hf => ?_, ?_⟩
  · rw [Tryz.func231] at hf; cases hf; exact plan_ok231
  refine List.forall_mem_cons.2 ⟨fun fn hf => ?_, ?_⟩
  · rw [Tryz.func239] at hf; cases hf; exact plan_ok239
  refine List.forall_mem_cons.2 ⟨fun fn hf => ?_, ?_⟩
  · rw [Tryz.func241] at hf; cases hf; exact plan_ok241
  refine List.forall_mem_cons.2 ⟨fun fn hf => ?_, ?_⟩
  · rw [Tryz.func242] at hf; cases hf; exact plan_ok242
  exact fun x hx => by cases hx
theorem plans_lot2 : ∀ f ∈ ([243, 245, 246, 248, 250, 251, 253, 254, 256, 257, 260, 261, 265, 266, 267, 268, 269, 270, 271, 276, 277, 278, 282, 289, 290, 294, 295, 297, 298, 299, 302, 308, 310, 311, 321, 328, 332, 333, 335, 336] : List Nat), ∀ fn, Tryz.prog.funcs[f]? = some fn → bodyOk plans f fn = true := by
  refine List.forall_mem_cons.2 ⟨fun fn hf => ?_, ?_⟩
  · rw [Tryz.func243] at hf; cases hf; exact plan_ok243
  refine List.forall_mem_cons.2 ⟨fun fn hf => ?_, ?_⟩
  · rw [Tryz.func245] at hf; cases hf; exact plan_ok245
  refine List.forall_mem_cons.2 ⟨fun fn hf => ?_, ?_⟩
  · rw [Tryz.func246] at hf; cases hf; exact plan_ok246
  refine List.forall_mem_cons.2 ⟨fun fn hf => ?_, ?_⟩
  · rw [Tryz.func248] at hf; cases hf; exact plan_ok248
  refine List.forall_mem_cons.2 ⟨fun fn hf => ?_, ?_⟩
  · rw [Tryz.func250] at hf; cases hf; exact plan_ok250
  refine List.forall_mem_cons.2 ⟨fun fn hf => ?_, ?_⟩
  · rw [Tryz.func251] at hf; cases hf; exact plan_ok251
  refine List.forall_mem_cons.2 ⟨fun fn hf => ?_, ?_⟩
  · rw [Tryz.func253] at hf; cases hf; exact plan_ok253
  refine List.forall_mem_cons.2 ⟨fun fn hf => ?_, ?_⟩
  · rw [Tryz.func254] at hf; cases hf; exact plan_ok254
  refine List.forall_mem_cons.2 ⟨fun fn hf => ?_, ?_⟩
  · rw [Tryz.func256] at hf; cases hf; exact plan_ok256
  refine List.forall_mem_cons.2 ⟨fun fn hf => ?_, ?_⟩
  · rw [Tryz.func257] at hf; cases hf; exact plan_ok257
  refine List.forall_mem_cons.2 ⟨fun fn hf => ?_, ?_⟩
  · rw [Tryz.func260] at hf; cases hf; exact plan_ok260
  refine List.forall_mem_cons.2 ⟨fun fn hf => ?_, ?_⟩
  · rw [Tryz.func261] at hf; cases hf; exact plan_ok261
  refine List.forall_mem_cons.2 ⟨fun fn hf => ?_, ?_⟩
  · rw [Tryz.func265] at hf; cases hf; exact plan_ok265
  refine List.forall_mem_cons.2 ⟨fun fn hf => ?_, ?_⟩
  · rw [Tryz.func266] at hf; cases hf; exact plan_ok266
  refine List.forall_mem_cons.2 ⟨fun fn hf => ?_, ?_⟩
  · rw [Tryz.func267] at hf; cases hf; exact plan_ok267
  refine List.forall_mem_cons.2 ⟨fun fn hf => ?_, ?_⟩
  · rw [Tryz.func268] at hf; cases hf; exact plan_ok268
  refine List.forall_mem_cons.2 ⟨fun fn hf => ?_, ?_⟩
  · rw [Tryz.func269] at hf; cases hf; exact plan_ok269
  refine List.forall_mem_cons.2 ⟨fun fn hf => ?_, ?_⟩
  · rw [Tryz.func270] at hf; cases hf; exact plan_ok270
  refine List.forall_mem_cons.2 ⟨fun fn hf => ?_, ?_⟩
  · rw [Tryz.func271] at hf; cases hf; exact plan_ok271
  refine List.forall_mem_cons.2 ⟨fun fn hf => ?_, ?_⟩
  · rw [Tryz.func276] at hf; cases hf; exact plan_ok276
  refine List.forall_mem_cons.2 ⟨fun fn hf => ?_, ?_⟩
  · rw [Tryz.func277] at hf; cases hf; exact plan_ok277
  refine List.forall_mem_cons.2 ⟨fun fn hf => ?_, ?_⟩
  · rw [Tryz.func278] at hf; cases hf; exact plan_ok278
  refine List.forall_mem_cons.2 ⟨fun fn hf => ?_, ?_⟩
  · rw [Tryz.func282] at hf; cases hf; exact plan_ok282
  refine List.forall_mem_cons.2 ⟨fun fn hf => ?_, ?_⟩
  · rw [Tryz.func289] at hf; cases hf; exact plan_ok289
  refine List.forall_mem_cons.2 ⟨fun fn hf => ?_, ?_⟩
  · rw [Tryz.func290] at hf; cases hf; exact plan_ok290
  refine List.forall_mem_cons.2 ⟨fun fn hf => ?_, ?_⟩
  · rw [Tryz.func294] at hf; cases hf; exact plan_ok294
  refine List.forall_mem_cons.2 ⟨fun fn hf => ?_, ?_⟩
  · rw [Tryz.func295] at hf; cases hf; exact plan_ok295
  refine List.forall_mem_cons.2 ⟨fun fn hf => ?_, ?_⟩
  · rw [Tryz.func297] at hf; cases hf; exact plan_ok297
  refine List.forall_mem_cons.2 ⟨fun fn hf => ?_, ?_⟩
  · rw [Tryz.func298] at hf; cases hf; exact plan_ok298
  refine List.forall_mem_cons.2 ⟨fun fn hf => ?_, ?_⟩
  · rw [Tryz.func299] at hf; cases hf; exact plan_ok299
  refine List.forall_mem_cons.2 ⟨fun fn hf => ?_, ?_⟩
  · rw [Tryz.func302] at hf; cases hf; exact plan_ok302
  refine List.forall_mem_cons.2 ⟨fun fn hf => ?_, ?_⟩
  · rw [Tryz.func308] at hf; cases hf; exact plan_ok308
  refine List.forall_mem_cons.2 ⟨fun fn hf => ?_, ?_⟩
  · rw [Tryz.func310] at hf; cases hf; exact plan_ok310
  refine List.forall_mem_cons.2 ⟨fun fn hf => ?_, ?_⟩
  · rw [Tryz.func311] at hf; cases hf; exact plan_ok311
  refine List.forall_mem_cons.2 ⟨fun fn hf => ?_, ?_⟩
  · rw [Tryz.func321] at hf; cases hf; exact plan_ok321
  refine List.forall_mem_cons.2 ⟨fun fn hf => ?_, ?_⟩
  · rw [Tryz.func328] at hf; cases hf; exact plan_ok328
  refine List.forall_mem_cons.2 ⟨fun fn hf => ?_, ?_⟩
  · rw [Tryz.func332] at hf; cases hf; exact plan_ok332
  refine List.forall_mem_cons.2 ⟨fun fn hf => ?_, ?_⟩
  · rw [Tryz.func333] at hf; cases hf; exact plan_ok333
  refine List.forall_mem_cons.2 ⟨fun fn hf => ?_, ?_⟩
  · rw [Tryz.func335] at hf; cases hf; exact plan_ok335
  refine List.forall_mem_cons.2 ⟨fun fn hf => ?_, ?_⟩
  · rw [Tryz.func336] at hf; cases hf; exact plan_ok336
  exact fun x hx => by cases hx
theorem plans_lot3 : ∀ f ∈ ([339, 340, 341, 343, 344, 346, 347, 350, 353, 354, 355, 357, 358, 359, 360, 361, 367, 380, 382, 384, 388, 389, 390, 392, 393, 395, 396, 399, 404, 406, 410, 415, 416, 417, 420, 421, 424, 425, 429, 432] : List Nat), ∀ fn, Tryz.prog.funcs[f]? = some fn → bodyOk plans f fn = true := by
  refine List.forall_mem_cons.2 ⟨fun fn hf => ?_, ?_⟩
  · rw [Tryz.func339] at hf; cases hf; exact plan_ok339
  refine List.forall_mem_cons.2 ⟨fun fn hf => ?_, ?_⟩
  · rw [Tryz.func340] at hf; cases hf; exact plan_ok340
  refine List.forall_mem_cons.2 ⟨fun fn hf => ?_, ?_⟩
  · rw [Tryz.func341] at hf; cases hf; exact plan_ok341
  refine List.forall_mem_cons.2 ⟨fun fn hf => ?_, ?_⟩
  · rw [Tryz.func343] at hf; cases hf; exact plan_ok343
  refine List.forall_mem_cons.2 ⟨fun fn hf => ?_, ?_⟩
  · rw [Tryz.func344] at hf; cases hf; exact plan_ok344
  refine List.forall_mem_cons.2 ⟨fun fn hf => ?_, ?_⟩
  · rw [Tryz.func346] at hf; cases hf; exact plan_ok346
  refine List.forall_mem_cons.2 ⟨fun fn hf => ?_, ?_⟩
  · rw [Tryz.func347] at hf; cases hf; exact plan_ok347
  refine List.forall_mem_cons.2 ⟨fun fn hf => ?_, ?_⟩
  · rw [Tryz.func350] at hf; cases hf; exact plan_ok350
  refine List.forall_mem_cons.2 ⟨fun fn hf => ?_, ?_⟩
  · rw [Tryz.func353] at hf; cases hf; exact plan_ok353
  refine List.forall_mem_cons.2 ⟨fun fn hf => ?_, ?_⟩
  · rw [Tryz.func354] at hf; cases hf; exact plan_ok354
  refine List.forall_mem_cons.2 ⟨fun fn hf => ?_, ?_⟩
  · rw [Tryz.func355] at hf; cases hf; exact plan_ok355
  refine List.forall_mem_cons.2 ⟨fun fn hf => ?_, ?_⟩
  · rw [Tryz.func357] at hf; cases hf; exact plan_ok357
  refine List.forall_mem_cons.2 ⟨fun fn hf => ?_, ?_⟩
  · rw [Tryz.func358] at hf; cases hf; exact plan_ok358
  refine List.forall_mem_cons.2 ⟨fun fn hf => ?_, ?_⟩
  · rw [Tryz.func359] at hf; cases hf; exact plan_ok359
  refine List.forall_mem_cons.2 ⟨fun fn hf => ?_, ?_⟩
  · rw [Tryz.func360] at hf; cases hf; exact plan_ok360
  refine List.forall_mem_cons.2 ⟨fun fn hf => ?_, ?_⟩
  · rw [Tryz.func361] at hf; cases hf; exact plan_ok361
  refine List.forall_mem_cons.2 ⟨fun fn hf => ?_, ?_⟩
  · rw [Tryz.func367] at hf; cases hf; exact plan_ok367
  refine List.forall_mem_cons.2 ⟨fun fn hf => ?_, ?_⟩
  · rw [Tryz.func380] at hf; cases hf; exact plan_ok380
  refine List.forall_mem_cons.2 ⟨fun fn hf => ?_, ?_⟩
  · rw [Tryz.func382] at hf; cases hf; exact plan_ok382
  refine List.forall_mem_cons.2 ⟨fun fn hf => ?_, ?_⟩
  · rw [Tryz.func384] at hf; cases hf; exact plan_ok384
  refine List.forall_mem_cons.2 ⟨fun fn hf => ?_, ?_⟩
  · rw [Tryz.func388] at hf; cases hf; exact plan_ok388
  refine List.forall_mem_cons.2 ⟨fun fn hf => ?_, ?_⟩
  · rw [Tryz.func389] at hf; cases hf; exact plan_ok389
  refine List.forall_mem_cons.2 ⟨fun fn hf => ?_, ?_⟩
  · rw [Tryz.func390] at hf; cases hf; exact plan_ok390
  refine List.forall_mem_cons.2 ⟨fun fn hf => ?_, ?_⟩
  · rw [Tryz.func392] at hf; cases hf; exact plan_ok392
  refine List.forall_mem_cons.2 ⟨fun fn hf => ?_, ?_⟩
  · rw [Tryz.func393] at hf; cases hf; exact plan_ok393
  refine List.forall_mem_cons.2 ⟨fun fn hf => ?_, ?_⟩
  · rw [Tryz.func395] at hf; cases hf; exact plan_ok395
  refine List.forall_mem_cons.2 ⟨fun fn hf => ?_, ?_⟩
  · rw [Tryz.func396] at hf; cases hf; exact plan_ok396
  refine List.forall_mem_cons.2 ⟨fun fn hf => ?_, ?_⟩
  · rw [Tryz.func399] at hf; cases hf; exact plan_ok399
  refine List.forall_mem_cons.2 ⟨fun fn hf => ?_, ?_⟩
  · rw [Tryz.func404] at hf; cases hf; exact plan_ok404
  refine List.forall_mem_cons.2 ⟨fun fn hf => ?_, ?_⟩
  · rw [Tryz.func406] at hf; cases hf; exact plan_ok406
  refine List.forall_mem_cons.2 ⟨fun fn hf => ?_, ?_⟩
  · rw [Tryz.func410] at hf; cases hf; exact plan_ok410
  refine List.forall_mem_cons.2 ⟨fun fn hf => ?_, ?_⟩
  · rw [Tryz.func415] at hf; cases hf; exact plan_ok415
  refine List.forall_mem_cons.2 ⟨fun fn hf => ?_, ?_⟩
  · rw [Tryz.func416] at hf; cases hf; exact plan_ok416
  refine List.forall_mem_cons.2 ⟨fun fn hf => ?_, ?_⟩
  · rw [Tryz.func417] at hf; cases hf; exact plan_ok417
  refine List.forall_mem_cons.2 ⟨fun fn hf => ?_, ?_⟩
  · rw [Tryz.func420] at hf; cases hf; exact plan_ok420
  refine List.forall_mem_cons.2 ⟨fun fn hf => ?_, ?_⟩
  · rw [Tryz.func421] at hf; cases hf; exact plan_ok421
  refine List.forall_mem_cons.2 ⟨fun fn hf => ?_, ?_⟩
  · rw [Tryz.func424] at hf; cases hf; exact plan_ok424
  refine List.forall_mem_cons.2 ⟨fun fn hf => ?_, ?_⟩
  · rw [Tryz.func425] at hf; cases hf; exact plan_ok425
  refine List.forall_mem_cons.2 ⟨fun fn hf => ?_, ?_⟩
  · rw [Tryz.func429] at hf; cases hf; exact plan_ok429
  refine List.forall_mem_cons.2 ⟨fun fn hf => ?_, ?_⟩
  · rw [Tryz.func432] at hf; cases hf; exact plan_ok432
  exact fun x hx => by cases hx
theorem plans_lot4 : ∀ f ∈ ([433, 434, 435, 436, 437, 438, 440, 441, 442, 443, 444, 447, 471, 473, 474, 477, 479, 480, 482, 484, 485, 489, 490, 491, 495, 496] : List Nat), ∀ fn, Tryz.prog.funcs[f]? = some fn → bodyOk plans f fn = true := by
  refine List.forall_mem_cons.2 ⟨fun fn hf => ?_, ?_⟩
  · rw [Tryz.func433] at hf; cases hf; exact plan_ok433
  refine List.forall_mem_cons.2 ⟨fun fn hf => ?_, ?_⟩
  · rw [Tryz.func434] at hf; cases hf; exact plan_ok434
  refine List.forall_mem_cons.2 ⟨fun fn hf => ?_, ?_⟩
  · rw [Tryz.func435] at hf; cases hf; exact plan_ok435
  refine List.forall_mem_cons.2 ⟨fun fn hf => ?_, ?_⟩
  · rw [Tryz.func436] at hf; cases hf; exact plan_ok436
  refine List.forall_mem_cons.2 ⟨fun fn hf => ?_, ?_⟩
  · rw [Tryz.func437] at hf; cases hf; exact plan_ok437
  refine List.forall_mem_cons.2 ⟨fun fn hf => ?_, ?_⟩
  · rw [Tryz.func438] at hf; cases hf; exact plan_ok438
  refine List.forall_mem_cons.2 ⟨fun fn hf => ?_, ?_⟩
  · rw [Tryz.func440] at hf; cases hf; exact plan_ok440
  refine List.forall_mem_cons.2 ⟨fun fn hf => ?_, ?_⟩
  · rw [Tryz.func441] at hf; cases hf; exact plan_ok441
  refine List.forall_mem_cons.2 ⟨fun fn hf => ?_, ?_⟩
  · rw [Tryz.func442] at hf; cases hf; exact plan_ok442
  refine List.forall_mem_cons.2 ⟨fun fn hf => ?_, ?_⟩
  · rw [Tryz.func443] at hf; cases hf; exact plan_ok443
  refine List.forall_mem_cons.2 ⟨fun fn hf => ?_, ?_⟩
  · rw [Tryz.func444] at hf; cases hf; exact plan_ok444
  refine List.forall_mem_cons.2 ⟨fun fn hf => ?_, ?_⟩
  · rw [Tryz.func447] at hf; cases hf; exact plan_ok447
  refine List.forall_mem_cons.2 ⟨fun fn hf => ?_, ?_⟩
  · rw [Tryz.func471] at hf; cases hf; exact plan_ok471
  refine List.forall_mem_cons.2 ⟨fun fn hf => ?_, ?_⟩
  · rw [Tryz.func473] at hf; cases hf; exact plan_ok473
  refine List.forall_mem_cons.2 ⟨fun fn hf => ?_, ?_⟩
  · rw [Tryz.func474] at hf; cases hf; exact plan_ok474
  refine List.forall_mem_cons.2 ⟨fun fn hf => ?_, ?_⟩
  · rw [Tryz.func477] at hf; cases hf; exact plan_ok477
  refine List.forall_mem_cons.2 ⟨fun fn hf => ?_, ?_⟩
  · rw [Tryz.func479] at hf; cases hf; exact plan_ok479
  refine List.forall_mem_cons.2 ⟨fun fn hf => ?_, ?_⟩
  · rw [Tryz.func480] at hf; cases hf; exact plan_ok480
  refine List.forall_mem_cons.2 ⟨fun fn hf => ?_, ?_⟩
  · rw [Tryz.func482] at hf; cases hf; exact plan_ok482
  refine List.forall_mem_cons.2 ⟨fun fn hf => ?_, ?_⟩
  · rw [Tryz.func484] at hf; cases hf; exact plan_ok484
  refine List.forall_mem_cons.2 ⟨fun fn hf => ?_, ?_⟩
  · rw [Tryz.func485] at hf; cases hf; exact plan_ok485
  refine List.forall_mem_cons.2 ⟨fun fn hf => ?_, ?_⟩
  · rw [Tryz.func489] at hf; cases hf; exact plan_ok489
  refine List.forall_mem_cons.2 ⟨fun fn hf => ?_, ?_⟩
  · rw [Tryz.func490] at hf; cases hf; exact plan_ok490
  refine List.forall_mem_cons.2 ⟨fun fn hf => ?_, ?_⟩
  · rw [Tryz.func491] at hf; cases hf; exact plan_ok491
  refine List.forall_mem_cons.2 ⟨fun fn hf => ?_, ?_⟩
  · rw [Tryz.func495] at hf; cases hf; exact plan_ok495
  refine List.forall_mem_cons.2 ⟨fun fn hf => ?_, ?_⟩
  · rw [Tryz.func496] at hf; cases hf; exact plan_ok496
  exact fun x hx => by cases hx
theorem planFs_cut : planFs = [3, 8, 14, 15, 20, 22, 24, 27, 28, 31, 39, 41, 42, 50, 60, 64, 65, 68, 69, 70, 71, 72, 74, 75, 76, 77, 78, 81, 85, 87, 90, 92, 93, 96, 97, 98, 99, 100, 101, 102] ++ [117, 120, 124, 127, 137, 138, 144, 146, 156, 160, 161, 163, 165, 167, 173, 174, 179, 180, 185, 187, 191, 196, 197, 198, 199, 200, 203, 204, 210, 212, 213, 217, 225, 226, 228, 229, 231, 239, 241, 242] ++ [243, 245, 246, 248, 250, 251, 253, 254, 256, 257, 260, 261, 265, 266, 267, 268, 269, 270, 271, 276, 277, 278, 282, 289, 290, 294, 295, 297, 298, 299, 302, 308, 310, 311, 321, 328, 332, 333, 335, 336] ++ [339, 340, 341, 343, 344, 346, 347, 350, 353, 354, 355, 357, 358, 359, 360, 361, 367, 380, 382, 384, 388, 389, 390, 392, 393, 395, 396, 399, 404, 406, 410, 415, 416, 417, 420, 421, 424, 425, 429, 432] ++ [433, 434, 435, 436, 437, 438, 440, 441, 442, 443, 444, 447, 471, 473, 474, 477, 479, 480, 482, 484, 485, 489, 490, 491, 495, 496] := by kernel_rfl
theorem plans_ok : PlansOk Tryz.prog plans := by
  have key : ∀ f fn, Tryz.prog.funcs[f]? = some fn → bodyOk plans f fn = true := by
    intro f fn hf
    have h := List.all_eq_true.1 plans_rest (fn, f) (by rw [List.mem_zipIdx_iff_getElem?]; simpa using hf)
    simp only [Bool.or_eq_true] at h
    rcases h with h | h
    · have h := List.contains_iff_mem.1 h
      rw [planFs_cut] at h
      rcases List.mem_append.1 h with h | h
      rotate_left
      · exact plans_lot4 f h fn hf
      rcases List.mem_append.1 h with h | h
      rotate_left
      · exact plans_lot3 f h fn hf
      rcases List.mem_append.1 h with h | h
      rotate_left
      · exact plans_lot2 f h fn hf
      rcases List.mem_append.1 h with h | h
      rotate_left
      · exact plans_lot1 f h fn hf
      exact plans_lot0 f h fn hf
    · exact h
  refine ⟨fun f fn c hf hc => ?_, fun a ha => by cases ha⟩
  simpa [bodyOk, hc] using key f fn hf

end Go.Proofs.YtfiefdkgneilkaaGreat

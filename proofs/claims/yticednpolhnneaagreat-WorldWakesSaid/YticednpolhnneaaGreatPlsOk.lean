/-
  The plans serve every region that draws its order. Printed by plans.py.
-/
import Derived.Test.YticednpolhnneaaGreatSxs
import Derived.Test.YticednpolhnneaaGreatProg
import Derived.Test.YticednpolhnneaaGreatPls
set_option linter.unusedVariables false
set_option linter.unusedSimpArgs false
namespace Go.Proofs.YticednpolhnneaaGreat
open Go

theorem follows_mixed : Tryz.prog.follows .mixedOrders = true := by kernel_rfl
def bodyOk (pl : Plans) (f : FuncId) (fn : Func) : Bool := match fn.body with
  | some c => codeOk pl f c
  | none => true
set_option maxRecDepth 100000 in
theorem plan_ok3 : bodyOk plans 3 Tryz.f3 = true := by kernel_rfl
set_option maxRecDepth 100000 in
theorem plan_ok4 : bodyOk plans 4 Tryz.f4 = true := by kernel_rfl
set_option maxRecDepth 100000 in
theorem plan_ok5 : bodyOk plans 5 Tryz.f5 = true := by kernel_rfl
set_option maxRecDepth 100000 in
theorem plan_ok13 : bodyOk plans 13 Tryz.f13 = true := by kernel_rfl
set_option maxRecDepth 100000 in
theorem plan_ok18 : bodyOk plans 18 Tryz.f18 = true := by kernel_rfl
set_option maxRecDepth 100000 in
theorem plan_ok19 : bodyOk plans 19 Tryz.f19 = true := by kernel_rfl
set_option maxRecDepth 100000 in
theorem plan_ok21 : bodyOk plans 21 Tryz.f21 = true := by kernel_rfl
set_option maxRecDepth 100000 in
theorem plan_ok24 : bodyOk plans 24 Tryz.f24 = true := by kernel_rfl
set_option maxRecDepth 100000 in
theorem plan_ok25 : bodyOk plans 25 Tryz.f25 = true := by kernel_rfl
set_option maxRecDepth 100000 in
theorem plan_ok34 : bodyOk plans 34 Tryz.f34 = true := by kernel_rfl
set_option maxRecDepth 100000 in
theorem plan_ok35 : bodyOk plans 35 Tryz.f35 = true := by kernel_rfl
set_option maxRecDepth 100000 in
theorem plan_ok37 : bodyOk plans 37 Tryz.f37 = true := by kernel_rfl
set_option maxRecDepth 100000 in
theorem plan_ok44 : bodyOk plans 44 Tryz.f44 = true := by kernel_rfl
set_option maxRecDepth 100000 in
theorem plan_ok45 : bodyOk plans 45 Tryz.f45 = true := by kernel_rfl
set_option maxRecDepth 100000 in
theorem plan_ok47 : bodyOk plans 47 Tryz.f47 = true := by kernel_rfl
set_option maxRecDepth 100000 in
theorem plan_ok48 : bodyOk plans 48 Tryz.f48 = true := by kernel_rfl
set_option maxRecDepth 100000 in
theorem plan_ok50 : bodyOk plans 50 Tryz.f50 = true := by kernel_rfl
set_option maxRecDepth 100000 in
theorem plan_ok51 : bodyOk plans 51 Tryz.f51 = true := by kernel_rfl
set_option maxRecDepth 100000 in
theorem plan_ok52 : bodyOk plans 52 Tryz.f52 = true := by kernel_rfl
set_option maxRecDepth 100000 in
theorem plan_ok53 : bodyOk plans 53 Tryz.f53 = true := by kernel_rfl
set_option maxRecDepth 100000 in
theorem plan_ok56 : bodyOk plans 56 Tryz.f56 = true := by kernel_rfl
set_option maxRecDepth 100000 in
theorem plan_ok57 : bodyOk plans 57 Tryz.f57 = true := by kernel_rfl
set_option maxRecDepth 100000 in
theorem plan_ok59 : bodyOk plans 59 Tryz.f59 = true := by kernel_rfl
set_option maxRecDepth 100000 in
theorem plan_ok61 : bodyOk plans 61 Tryz.f61 = true := by kernel_rfl
set_option maxRecDepth 100000 in
theorem plan_ok63 : bodyOk plans 63 Tryz.f63 = true := by kernel_rfl
set_option maxRecDepth 100000 in
theorem plan_ok77 : bodyOk plans 77 Tryz.f77 = true := by kernel_rfl
set_option maxRecDepth 100000 in
theorem plan_ok81 : bodyOk plans 81 Tryz.f81 = true := by kernel_rfl
set_option maxRecDepth 100000 in
theorem plan_ok83 : bodyOk plans 83 Tryz.f83 = true := by kernel_rfl
set_option maxRecDepth 100000 in
theorem plan_ok84 : bodyOk plans 84 Tryz.f84 = true := by kernel_rfl
set_option maxRecDepth 100000 in
theorem plan_ok87 : bodyOk plans 87 Tryz.f87 = true := by kernel_rfl
set_option maxRecDepth 100000 in
theorem plan_ok98 : bodyOk plans 98 Tryz.f98 = true := by kernel_rfl
set_option maxRecDepth 100000 in
theorem plan_ok99 : bodyOk plans 99 Tryz.f99 = true := by kernel_rfl
set_option maxRecDepth 100000 in
theorem plan_ok101 : bodyOk plans 101 Tryz.f101 = true := by kernel_rfl
set_option maxRecDepth 100000 in
theorem plan_ok106 : bodyOk plans 106 Tryz.f106 = true := by kernel_rfl
set_option maxRecDepth 100000 in
theorem plan_ok108 : bodyOk plans 108 Tryz.f108 = true := by kernel_rfl
set_option maxRecDepth 100000 in
theorem plan_ok111 : bodyOk plans 111 Tryz.f111 = true := by kernel_rfl
set_option maxRecDepth 100000 in
theorem plan_ok114 : bodyOk plans 114 Tryz.f114 = true := by kernel_rfl
set_option maxRecDepth 100000 in
theorem plan_ok121 : bodyOk plans 121 Tryz.f121 = true := by kernel_rfl
set_option maxRecDepth 100000 in
theorem plan_ok122 : bodyOk plans 122 Tryz.f122 = true := by kernel_rfl
set_option maxRecDepth 100000 in
theorem plan_ok123 : bodyOk plans 123 Tryz.f123 = true := by kernel_rfl
set_option maxRecDepth 100000 in
theorem plan_ok124 : bodyOk plans 124 Tryz.f124 = true := by kernel_rfl
set_option maxRecDepth 100000 in
theorem plan_ok127 : bodyOk plans 127 Tryz.f127 = true := by kernel_rfl
set_option maxRecDepth 100000 in
theorem plan_ok128 : bodyOk plans 128 Tryz.f128 = true := by kernel_rfl
set_option maxRecDepth 100000 in
theorem plan_ok129 : bodyOk plans 129 Tryz.f129 = true := by kernel_rfl
set_option maxRecDepth 100000 in
theorem plan_ok131 : bodyOk plans 131 Tryz.f131 = true := by kernel_rfl
set_option maxRecDepth 100000 in
theorem plan_ok132 : bodyOk plans 132 Tryz.f132 = true := by kernel_rfl
set_option maxRecDepth 100000 in
theorem plan_ok141 : bodyOk plans 141 Tryz.f141 = true := by kernel_rfl
set_option maxRecDepth 100000 in
theorem plan_ok149 : bodyOk plans 149 Tryz.f149 = true := by kernel_rfl
set_option maxRecDepth 100000 in
theorem plan_ok150 : bodyOk plans 150 Tryz.f150 = true := by kernel_rfl
set_option maxRecDepth 100000 in
theorem plan_ok151 : bodyOk plans 151 Tryz.f151 = true := by kernel_rfl
set_option maxRecDepth 100000 in
theorem plan_ok153 : bodyOk plans 153 Tryz.f153 = true := by kernel_rfl
set_option maxRecDepth 100000 in
theorem plan_ok154 : bodyOk plans 154 Tryz.f154 = true := by kernel_rfl
set_option maxRecDepth 100000 in
theorem plan_ok157 : bodyOk plans 157 Tryz.f157 = true := by kernel_rfl
set_option maxRecDepth 100000 in
theorem plan_ok159 : bodyOk plans 159 Tryz.f159 = true := by kernel_rfl
set_option maxRecDepth 100000 in
theorem plan_ok160 : bodyOk plans 160 Tryz.f160 = true := by kernel_rfl
set_option maxRecDepth 100000 in
theorem plan_ok161 : bodyOk plans 161 Tryz.f161 = true := by kernel_rfl
set_option maxRecDepth 100000 in
theorem plan_ok166 : bodyOk plans 166 Tryz.f166 = true := by kernel_rfl
set_option maxRecDepth 100000 in
theorem plan_ok167 : bodyOk plans 167 Tryz.f167 = true := by kernel_rfl
set_option maxRecDepth 100000 in
theorem plan_ok171 : bodyOk plans 171 Tryz.f171 = true := by kernel_rfl
set_option maxRecDepth 100000 in
theorem plan_ok173 : bodyOk plans 173 Tryz.f173 = true := by kernel_rfl
set_option maxRecDepth 100000 in
theorem plan_ok174 : bodyOk plans 174 Tryz.f174 = true := by kernel_rfl
set_option maxRecDepth 100000 in
theorem plan_ok175 : bodyOk plans 175 Tryz.f175 = true := by kernel_rfl
set_option maxRecDepth 100000 in
theorem plan_ok176 : bodyOk plans 176 Tryz.f176 = true := by kernel_rfl
set_option maxRecDepth 100000 in
theorem plan_ok177 : bodyOk plans 177 Tryz.f177 = true := by kernel_rfl
set_option maxRecDepth 100000 in
theorem plan_ok178 : bodyOk plans 178 Tryz.f178 = true := by kernel_rfl
set_option maxRecDepth 100000 in
theorem plan_ok179 : bodyOk plans 179 Tryz.f179 = true := by kernel_rfl
set_option maxRecDepth 100000 in
theorem plan_ok182 : bodyOk plans 182 Tryz.f182 = true := by kernel_rfl
set_option maxRecDepth 100000 in
theorem plan_ok186 : bodyOk plans 186 Tryz.f186 = true := by kernel_rfl
set_option maxRecDepth 100000 in
theorem plan_ok189 : bodyOk plans 189 Tryz.f189 = true := by kernel_rfl
set_option maxRecDepth 100000 in
theorem plan_ok190 : bodyOk plans 190 Tryz.f190 = true := by kernel_rfl
set_option maxRecDepth 100000 in
theorem plan_ok191 : bodyOk plans 191 Tryz.f191 = true := by kernel_rfl
set_option maxRecDepth 100000 in
theorem plan_ok192 : bodyOk plans 192 Tryz.f192 = true := by kernel_rfl
set_option maxRecDepth 100000 in
theorem plan_ok194 : bodyOk plans 194 Tryz.f194 = true := by kernel_rfl
set_option maxRecDepth 100000 in
theorem plan_ok197 : bodyOk plans 197 Tryz.f197 = true := by kernel_rfl
set_option maxRecDepth 100000 in
theorem plan_ok200 : bodyOk plans 200 Tryz.f200 = true := by kernel_rfl
set_option maxRecDepth 100000 in
theorem plan_ok201 : bodyOk plans 201 Tryz.f201 = true := by kernel_rfl
set_option maxRecDepth 100000 in
theorem plan_ok203 : bodyOk plans 203 Tryz.f203 = true := by kernel_rfl
set_option maxRecDepth 100000 in
theorem plan_ok221 : bodyOk plans 221 Tryz.f221 = true := by kernel_rfl
set_option maxRecDepth 100000 in
theorem plan_ok222 : bodyOk plans 222 Tryz.f222 = true := by kernel_rfl
set_option maxRecDepth 100000 in
theorem plan_ok226 : bodyOk plans 226 Tryz.f226 = true := by kernel_rfl
set_option maxRecDepth 100000 in
theorem plan_ok227 : bodyOk plans 227 Tryz.f227 = true := by kernel_rfl
set_option maxRecDepth 100000 in
theorem plan_ok231 : bodyOk plans 231 Tryz.f231 = true := by kernel_rfl
set_option maxRecDepth 100000 in
theorem plan_ok234 : bodyOk plans 234 Tryz.f234 = true := by kernel_rfl
set_option maxRecDepth 100000 in
theorem plan_ok236 : bodyOk plans 236 Tryz.f236 = true := by kernel_rfl
set_option maxRecDepth 100000 in
theorem plan_ok237 : bodyOk plans 237 Tryz.f237 = true := by kernel_rfl
set_option maxRecDepth 100000 in
theorem plan_ok239 : bodyOk plans 239 Tryz.f239 = true := by kernel_rfl
set_option maxRecDepth 100000 in
theorem plan_ok240 : bodyOk plans 240 Tryz.f240 = true := by kernel_rfl
set_option maxRecDepth 100000 in
theorem plan_ok241 : bodyOk plans 241 Tryz.f241 = true := by kernel_rfl
set_option maxRecDepth 100000 in
theorem plan_ok242 : bodyOk plans 242 Tryz.f242 = true := by kernel_rfl
set_option maxRecDepth 100000 in
theorem plan_ok253 : bodyOk plans 253 Tryz.f253 = true := by kernel_rfl
set_option maxRecDepth 100000 in
theorem plan_ok254 : bodyOk plans 254 Tryz.f254 = true := by kernel_rfl
set_option maxRecDepth 100000 in
theorem plan_ok255 : bodyOk plans 255 Tryz.f255 = true := by kernel_rfl
set_option maxRecDepth 100000 in
theorem plan_ok256 : bodyOk plans 256 Tryz.f256 = true := by kernel_rfl
set_option maxRecDepth 100000 in
theorem plan_ok257 : bodyOk plans 257 Tryz.f257 = true := by kernel_rfl
set_option maxRecDepth 100000 in
theorem plan_ok258 : bodyOk plans 258 Tryz.f258 = true := by kernel_rfl
set_option maxRecDepth 100000 in
theorem plan_ok259 : bodyOk plans 259 Tryz.f259 = true := by kernel_rfl
set_option maxRecDepth 100000 in
theorem plan_ok266 : bodyOk plans 266 Tryz.f266 = true := by kernel_rfl
set_option maxRecDepth 100000 in
theorem plan_ok267 : bodyOk plans 267 Tryz.f267 = true := by kernel_rfl
set_option maxRecDepth 100000 in
theorem plan_ok281 : bodyOk plans 281 Tryz.f281 = true := by kernel_rfl
set_option maxRecDepth 100000 in
theorem plan_ok284 : bodyOk plans 284 Tryz.f284 = true := by kernel_rfl
set_option maxRecDepth 100000 in
theorem plan_ok286 : bodyOk plans 286 Tryz.f286 = true := by kernel_rfl
set_option maxRecDepth 100000 in
theorem plan_ok287 : bodyOk plans 287 Tryz.f287 = true := by kernel_rfl
set_option maxRecDepth 100000 in
theorem plan_ok288 : bodyOk plans 288 Tryz.f288 = true := by kernel_rfl
set_option maxRecDepth 100000 in
theorem plan_ok290 : bodyOk plans 290 Tryz.f290 = true := by kernel_rfl
set_option maxRecDepth 100000 in
theorem plan_ok294 : bodyOk plans 294 Tryz.f294 = true := by kernel_rfl
set_option maxRecDepth 100000 in
theorem plan_ok295 : bodyOk plans 295 Tryz.f295 = true := by kernel_rfl
set_option maxRecDepth 100000 in
theorem plan_ok296 : bodyOk plans 296 Tryz.f296 = true := by kernel_rfl
set_option maxRecDepth 100000 in
theorem plan_ok297 : bodyOk plans 297 Tryz.f297 = true := by kernel_rfl
set_option maxRecDepth 100000 in
theorem plan_ok299 : bodyOk plans 299 Tryz.f299 = true := by kernel_rfl
set_option maxRecDepth 100000 in
theorem plan_ok304 : bodyOk plans 304 Tryz.f304 = true := by kernel_rfl
set_option maxRecDepth 100000 in
theorem plan_ok307 : bodyOk plans 307 Tryz.f307 = true := by kernel_rfl
set_option maxRecDepth 100000 in
theorem plan_ok308 : bodyOk plans 308 Tryz.f308 = true := by kernel_rfl
set_option maxRecDepth 100000 in
theorem plan_ok309 : bodyOk plans 309 Tryz.f309 = true := by kernel_rfl
set_option maxRecDepth 100000 in
theorem plan_ok313 : bodyOk plans 313 Tryz.f313 = true := by kernel_rfl
set_option maxRecDepth 100000 in
theorem plan_ok321 : bodyOk plans 321 Tryz.f321 = true := by kernel_rfl
set_option maxRecDepth 100000 in
theorem plan_ok323 : bodyOk plans 323 Tryz.f323 = true := by kernel_rfl
set_option maxRecDepth 100000 in
theorem plan_ok324 : bodyOk plans 324 Tryz.f324 = true := by kernel_rfl
set_option maxRecDepth 100000 in
theorem plan_ok325 : bodyOk plans 325 Tryz.f325 = true := by kernel_rfl
set_option maxRecDepth 100000 in
theorem plan_ok327 : bodyOk plans 327 Tryz.f327 = true := by kernel_rfl
set_option maxRecDepth 100000 in
theorem plan_ok328 : bodyOk plans 328 Tryz.f328 = true := by kernel_rfl
set_option maxRecDepth 100000 in
theorem plan_ok330 : bodyOk plans 330 Tryz.f330 = true := by kernel_rfl
set_option maxRecDepth 100000 in
theorem plan_ok333 : bodyOk plans 333 Tryz.f333 = true := by kernel_rfl
set_option maxRecDepth 100000 in
theorem plan_ok334 : bodyOk plans 334 Tryz.f334 = true := by kernel_rfl
set_option maxRecDepth 100000 in
theorem plan_ok335 : bodyOk plans 335 Tryz.f335 = true := by kernel_rfl
set_option maxRecDepth 100000 in
theorem plan_ok339 : bodyOk plans 339 Tryz.f339 = true := by kernel_rfl
set_option maxRecDepth 100000 in
theorem plan_ok340 : bodyOk plans 340 Tryz.f340 = true := by kernel_rfl
set_option maxRecDepth 100000 in
theorem plan_ok341 : bodyOk plans 341 Tryz.f341 = true := by kernel_rfl
set_option maxRecDepth 100000 in
theorem plan_ok348 : bodyOk plans 348 Tryz.f348 = true := by kernel_rfl
set_option maxRecDepth 100000 in
theorem plan_ok349 : bodyOk plans 349 Tryz.f349 = true := by kernel_rfl
set_option maxRecDepth 100000 in
theorem plan_ok350 : bodyOk plans 350 Tryz.f350 = true := by kernel_rfl
set_option maxRecDepth 100000 in
theorem plan_ok351 : bodyOk plans 351 Tryz.f351 = true := by kernel_rfl
set_option maxRecDepth 100000 in
theorem plan_ok352 : bodyOk plans 352 Tryz.f352 = true := by kernel_rfl
set_option maxRecDepth 100000 in
theorem plan_ok354 : bodyOk plans 354 Tryz.f354 = true := by kernel_rfl
set_option maxRecDepth 100000 in
theorem plan_ok355 : bodyOk plans 355 Tryz.f355 = true := by kernel_rfl
set_option maxRecDepth 100000 in
theorem plan_ok356 : bodyOk plans 356 Tryz.f356 = true := by kernel_rfl
set_option maxRecDepth 100000 in
theorem plan_ok358 : bodyOk plans 358 Tryz.f358 = true := by kernel_rfl
set_option maxRecDepth 100000 in
theorem plan_ok359 : bodyOk plans 359 Tryz.f359 = true := by kernel_rfl
set_option maxRecDepth 100000 in
theorem plan_ok360 : bodyOk plans 360 Tryz.f360 = true := by kernel_rfl
set_option maxRecDepth 100000 in
theorem plan_ok361 : bodyOk plans 361 Tryz.f361 = true := by kernel_rfl
set_option maxRecDepth 100000 in
theorem plan_ok366 : bodyOk plans 366 Tryz.f366 = true := by kernel_rfl
set_option maxRecDepth 100000 in
theorem plan_ok368 : bodyOk plans 368 Tryz.f368 = true := by kernel_rfl
set_option maxRecDepth 100000 in
theorem plan_ok372 : bodyOk plans 372 Tryz.f372 = true := by kernel_rfl
set_option maxRecDepth 100000 in
theorem plan_ok373 : bodyOk plans 373 Tryz.f373 = true := by kernel_rfl
set_option maxRecDepth 100000 in
theorem plan_ok375 : bodyOk plans 375 Tryz.f375 = true := by kernel_rfl
set_option maxRecDepth 100000 in
theorem plan_ok377 : bodyOk plans 377 Tryz.f377 = true := by kernel_rfl
set_option maxRecDepth 100000 in
theorem plan_ok378 : bodyOk plans 378 Tryz.f378 = true := by kernel_rfl
set_option maxRecDepth 100000 in
theorem plan_ok379 : bodyOk plans 379 Tryz.f379 = true := by kernel_rfl
set_option maxRecDepth 100000 in
theorem plan_ok380 : bodyOk plans 380 Tryz.f380 = true := by kernel_rfl
set_option maxRecDepth 100000 in
theorem plan_ok382 : bodyOk plans 382 Tryz.f382 = true := by kernel_rfl
set_option maxRecDepth 100000 in
theorem plan_ok383 : bodyOk plans 383 Tryz.f383 = true := by kernel_rfl
set_option maxRecDepth 100000 in
theorem plan_ok385 : bodyOk plans 385 Tryz.f385 = true := by kernel_rfl
set_option maxRecDepth 100000 in
theorem plan_ok386 : bodyOk plans 386 Tryz.f386 = true := by kernel_rfl
set_option maxRecDepth 100000 in
theorem plan_ok396 : bodyOk plans 396 Tryz.f396 = true := by kernel_rfl
set_option maxRecDepth 100000 in
theorem plan_ok397 : bodyOk plans 397 Tryz.f397 = true := by kernel_rfl
set_option maxRecDepth 100000 in
theorem plan_ok399 : bodyOk plans 399 Tryz.f399 = true := by kernel_rfl
set_option maxRecDepth 100000 in
theorem plan_ok403 : bodyOk plans 403 Tryz.f403 = true := by kernel_rfl
set_option maxRecDepth 100000 in
theorem plan_ok404 : bodyOk plans 404 Tryz.f404 = true := by kernel_rfl
set_option maxRecDepth 100000 in
theorem plan_ok406 : bodyOk plans 406 Tryz.f406 = true := by kernel_rfl
set_option maxRecDepth 100000 in
theorem plan_ok410 : bodyOk plans 410 Tryz.f410 = true := by kernel_rfl
set_option maxRecDepth 100000 in
theorem plan_ok411 : bodyOk plans 411 Tryz.f411 = true := by kernel_rfl
set_option maxRecDepth 100000 in
theorem plan_ok413 : bodyOk plans 413 Tryz.f413 = true := by kernel_rfl
set_option maxRecDepth 100000 in
theorem plan_ok414 : bodyOk plans 414 Tryz.f414 = true := by kernel_rfl
set_option maxRecDepth 100000 in
theorem plan_ok415 : bodyOk plans 415 Tryz.f415 = true := by kernel_rfl
set_option maxRecDepth 100000 in
theorem plan_ok416 : bodyOk plans 416 Tryz.f416 = true := by kernel_rfl
set_option maxRecDepth 100000 in
theorem plan_ok418 : bodyOk plans 418 Tryz.f418 = true := by kernel_rfl
set_option maxRecDepth 100000 in
theorem plan_ok419 : bodyOk plans 419 Tryz.f419 = true := by kernel_rfl
set_option maxRecDepth 100000 in
theorem plan_ok421 : bodyOk plans 421 Tryz.f421 = true := by kernel_rfl
set_option maxRecDepth 100000 in
theorem plan_ok422 : bodyOk plans 422 Tryz.f422 = true := by kernel_rfl
set_option maxRecDepth 100000 in
theorem plan_ok424 : bodyOk plans 424 Tryz.f424 = true := by kernel_rfl
set_option maxRecDepth 100000 in
theorem plan_ok427 : bodyOk plans 427 Tryz.f427 = true := by kernel_rfl
set_option maxRecDepth 100000 in
theorem plan_ok452 : bodyOk plans 452 Tryz.f452 = true := by kernel_rfl
set_option maxRecDepth 100000 in
theorem plan_ok454 : bodyOk plans 454 Tryz.f454 = true := by kernel_rfl
set_option maxRecDepth 100000 in
theorem plan_ok455 : bodyOk plans 455 Tryz.f455 = true := by kernel_rfl
set_option maxRecDepth 100000 in
theorem plan_ok459 : bodyOk plans 459 Tryz.f459 = true := by kernel_rfl
set_option maxRecDepth 100000 in
theorem plan_ok462 : bodyOk plans 462 Tryz.f462 = true := by kernel_rfl
set_option maxRecDepth 100000 in
theorem plan_ok463 : bodyOk plans 463 Tryz.f463 = true := by kernel_rfl
set_option maxRecDepth 100000 in
theorem plan_ok466 : bodyOk plans 466 Tryz.f466 = true := by kernel_rfl
set_option maxRecDepth 100000 in
theorem plan_ok468 : bodyOk plans 468 Tryz.f468 = true := by kernel_rfl
set_option maxRecDepth 100000 in
theorem plan_ok469 : bodyOk plans 469 Tryz.f469 = true := by kernel_rfl
set_option maxRecDepth 100000 in
theorem plan_ok473 : bodyOk plans 473 Tryz.f473 = true := by kernel_rfl
set_option maxRecDepth 100000 in
theorem plan_ok475 : bodyOk plans 475 Tryz.f475 = true := by kernel_rfl
set_option maxRecDepth 100000 in
theorem plan_ok476 : bodyOk plans 476 Tryz.f476 = true := by kernel_rfl
set_option maxRecDepth 100000 in
theorem plan_ok480 : bodyOk plans 480 Tryz.f480 = true := by kernel_rfl
set_option maxRecDepth 100000 in
theorem plan_ok482 : bodyOk plans 482 Tryz.f482 = true := by kernel_rfl
set_option maxRecDepth 100000 in
theorem plan_ok486 : bodyOk plans 486 Tryz.f486 = true := by kernel_rfl
set_option maxRecDepth 100000 in
theorem plan_ok487 : bodyOk plans 487 Tryz.f487 = true := by kernel_rfl
set_option maxRecDepth 100000 in
theorem plan_ok488 : bodyOk plans 488 Tryz.f488 = true := by kernel_rfl
set_option maxRecDepth 100000 in
theorem plan_ok489 : bodyOk plans 489 Tryz.f489 = true := by kernel_rfl
def planFs : List Nat := [3, 4, 5, 13, 18, 19, 21, 24, 25, 34, 35, 37, 44, 45, 47, 48, 50, 51, 52, 53, 56, 57, 59, 61, 63, 77, 81, 83, 84, 87, 98, 99, 101, 106, 108, 111, 114, 121, 122, 123, 124, 127, 128, 129, 131, 132, 141, 149, 150, 151, 153, 154, 157, 159, 160, 161, 166, 167, 171, 173, 174, 175, 176, 177, 178, 179, 182, 186, 189, 190, 191, 192, 194, 197, 200, 201, 203, 221, 222, 226, 227, 231, 234, 236, 237, 239, 240, 241, 242, 253, 254, 255, 256, 257, 258, 259, 266, 267, 281, 284, 286, 287, 288, 290, 294, 295, 296, 297, 299, 304, 307, 308, 309, 313, 321, 323, 324, 325, 327, 328, 330, 333, 334, 335, 339, 340, 341, 348, 349, 350, 351, 352, 354, 355, 356, 358, 359, 360, 361, 366, 368, 372, 373, 375, 377, 378, 379, 380, 382, 383, 385, 386, 396, 397, 399, 403, 404, 406, 410, 411, 413, 414, 415, 416, 418, 419, 421, 422, 424, 427, 452, 454, 455, 459, 462, 463, 466, 468, 469, 473, 475, 476, 480, 482, 486, 487, 488, 489]
set_option maxRecDepth 100000 in
theorem plans_rest : (Tryz.prog.funcs.toList.zipIdx.all fun x => planFs.contains x.2 || bodyOk plans x.2 x.1) = true := by kernel_rfl
theorem plans_lot0 : ∀ f ∈ ([3, 4, 5, 13, 18, 19, 21, 24, 25, 34, 35, 37, 44, 45, 47, 48, 50, 51, 52, 53, 56, 57, 59, 61, 63, 77, 81, 83, 84, 87, 98, 99, 101, 106, 108, 111, 114, 121, 122, 123] : List Nat), ∀ fn, Tryz.prog.funcs[f]? = some fn → bodyOk plans f fn = true := by
  refine List.forall_mem_cons.2 ⟨fun fn hf => ?_, ?_⟩
  · rw [Tryz.func3] at hf; cases hf; exact plan_ok3
  refine List.forall_mem_cons.2 ⟨fun fn hf => ?_, ?_⟩
  · rw [Tryz.func4] at hf; cases hf; exact plan_ok4
  refine List.forall_mem_cons.2 ⟨fun fn hf => ?_, ?_⟩
  · rw [Tryz.func5] at hf; cases hf; exact plan_ok5
  refine List.forall_mem_cons.2 ⟨fun fn hf => ?_, ?_⟩
  · rw [Tryz.func13] at hf; cases hf; exact plan_ok13
  refine List.forall_mem_cons.2 ⟨fun fn hf => ?_, ?_⟩
  · rw [Tryz.func18] at hf; cases hf; exact plan_ok18
  refine List.forall_mem_cons.2 ⟨fun fn hf => ?_, ?_⟩
  · rw [Tryz.func19] at hf; cases hf; exact plan_ok19
  refine List.forall_mem_cons.2 ⟨fun fn hf => ?_, ?_⟩
  · rw [Tryz.func21] at hf; cases hf; exact plan_ok21
  refine List.forall_mem_cons.2 ⟨fun fn hf => ?_, ?_⟩
  · rw [Tryz.func24] at hf; cases hf; exact plan_ok24
  refine List.forall_mem_cons.2 ⟨fun fn hf => ?_, ?_⟩
  · rw [Tryz.func25] at hf; cases hf; exact plan_ok25
  refine List.forall_mem_cons.2 ⟨fun fn hf => ?_, ?_⟩
  · rw [Tryz.func34] at hf; cases hf; exact plan_ok34
  refine List.forall_mem_cons.2 ⟨fun fn hf => ?_, ?_⟩
  · rw [Tryz.func35] at hf; cases hf; exact plan_ok35
  refine List.forall_mem_cons.2 ⟨fun fn hf => ?_, ?_⟩
  · rw [Tryz.func37] at hf; cases hf; exact plan_ok37
  refine List.forall_mem_cons.2 ⟨fun fn hf => ?_, ?_⟩
  · rw [Tryz.func44] at hf; cases hf; exact plan_ok44
  refine List.forall_mem_cons.2 ⟨fun fn hf => ?_, ?_⟩
  · rw [Tryz.func45] at hf; cases hf; exact plan_ok45
  refine List.forall_mem_cons.2 ⟨fun fn hf => ?_, ?_⟩
  · rw [Tryz.func47] at hf; cases hf; exact plan_ok47
  refine List.forall_mem_cons.2 ⟨fun fn hf => ?_, ?_⟩
  · rw [Tryz.func48] at hf; cases hf; exact plan_ok48
  refine List.forall_mem_cons.2 ⟨fun fn hf => ?_, ?_⟩
  · rw [Tryz.func50] at hf; cases hf; exact plan_ok50
  refine List.forall_mem_cons.2 ⟨fun fn hf => ?_, ?_⟩
  · rw [Tryz.func51] at hf; cases hf; exact plan_ok51
  refine List.forall_mem_cons.2 ⟨fun fn hf => ?_, ?_⟩
  · rw [Tryz.func52] at hf; cases hf; exact plan_ok52
  refine List.forall_mem_cons.2 ⟨fun fn hf => ?_, ?_⟩
  · rw [Tryz.func53] at hf; cases hf; exact plan_ok53
  refine List.forall_mem_cons.2 ⟨fun fn hf => ?_, ?_⟩
  · rw [Tryz.func56] at hf; cases hf; exact plan_ok56
  refine List.forall_mem_cons.2 ⟨fun fn hf => ?_, ?_⟩
  · rw [Tryz.func57] at hf; cases hf; exact plan_ok57
  refine List.forall_mem_cons.2 ⟨fun fn hf => ?_, ?_⟩
  · rw [Tryz.func59] at hf; cases hf; exact plan_ok59
  refine List.forall_mem_cons.2 ⟨fun fn hf => ?_, ?_⟩
  · rw [Tryz.func61] at hf; cases hf; exact plan_ok61
  refine List.forall_mem_cons.2 ⟨fun fn hf => ?_, ?_⟩
  · rw [Tryz.func63] at hf; cases hf; exact plan_ok63
  refine List.forall_mem_cons.2 ⟨fun fn hf => ?_, ?_⟩
  · rw [Tryz.func77] at hf; cases hf; exact plan_ok77
  refine List.forall_mem_cons.2 ⟨fun fn hf => ?_, ?_⟩
  · rw [Tryz.func81] at hf; cases hf; exact plan_ok81
  refine List.forall_mem_cons.2 ⟨fun fn hf => ?_, ?_⟩
  · rw [Tryz.func83] at hf; cases hf; exact plan_ok83
  refine List.forall_mem_cons.2 ⟨fun fn hf => ?_, ?_⟩
  · rw [Tryz.func84] at hf; cases hf; exact plan_ok84
  refine List.forall_mem_cons.2 ⟨fun fn hf => ?_, ?_⟩
  · rw [Tryz.func87] at hf; cases hf; exact plan_ok87
  refine List.forall_mem_cons.2 ⟨fun fn hf => ?_, ?_⟩
  · rw [Tryz.func98] at hf; cases hf; exact plan_ok98
  refine List.forall_mem_cons.2 ⟨fun fn hf => ?_, ?_⟩
  · rw [Tryz.func99] at hf; cases hf; exact plan_ok99
  refine List.forall_mem_cons.2 ⟨fun fn hf => ?_, ?_⟩
  · rw [Tryz.func101] at hf; cases hf; exact plan_ok101
  refine List.forall_mem_cons.2 ⟨fun fn hf => ?_, ?_⟩
  · rw [Tryz.func106] at hf; cases hf; exact plan_ok106
  refine List.forall_mem_cons.2 ⟨fun fn hf => ?_, ?_⟩
  · rw [Tryz.func108] at hf; cases hf; exact plan_ok108
  refine List.forall_mem_cons.2 ⟨fun fn hf => ?_, ?_⟩
  · rw [Tryz.func111] at hf; cases hf; exact plan_ok111
  refine List.forall_mem_cons.2 ⟨fun fn hf => ?_, ?_⟩
  · rw [Tryz.func114] at hf; cases hf; exact plan_ok114
  refine List.forall_mem_cons.2 ⟨fun fn hf => ?_, ?_⟩
  · rw [Tryz.func121] at hf; cases hf; exact plan_ok121
  refine List.forall_mem_cons.2 ⟨fun fn hf => ?_, ?_⟩
  · rw [Tryz.func122] at hf; cases hf; exact plan_ok122
  refine List.forall_mem_cons.2 ⟨fun fn hf => ?_, ?_⟩
  · rw [Tryz.func123] at hf; cases hf; exact plan_ok123
  exact fun x hx => by cases hx
theorem plans_lot1 : ∀ f ∈ ([124, 127, 128, 129, 131, 132, 141, 149, 150, 151, 153, 154, 157, 159, 160, 161, 166, 167, 171, 173, 174, 175, 176, 177, 178, 179, 182, 186, 189, 190, 191, 192, 194, 197, 200, 201, 203, 221, 222, 226] : List Nat), ∀ fn, Tryz.prog.funcs[f]? = some fn → bodyOk plans f fn = true := by
  refine List.forall_mem_cons.2 ⟨fun fn hf => ?_, ?_⟩
  · rw [Tryz.func124] at hf; cases hf; exact plan_ok124
  refine List.forall_mem_cons.2 ⟨fun fn hf => ?_, ?_⟩
  · rw [Tryz.func127] at hf; cases hf; exact plan_ok127
  refine List.forall_mem_cons.2 ⟨fun fn hf => ?_, ?_⟩
  · rw [Tryz.func128] at hf; cases hf; exact plan_ok128
  refine List.forall_mem_cons.2 ⟨fun fn hf => ?_, ?_⟩
  · rw [Tryz.func129] at hf; cases hf; exact plan_ok129
  refine List.forall_mem_cons.2 ⟨fun fn hf => ?_, ?_⟩
  · rw [Tryz.func131] at hf; cases hf; exact plan_ok131
  refine List.forall_mem_cons.2 ⟨fun fn hf => ?_, ?_⟩
  · rw [Tryz.func132] at hf; cases hf; exact plan_ok132
  refine List.forall_mem_cons.2 ⟨fun fn hf => ?_, ?_⟩
  · rw [Tryz.func141] at hf; cases hf; exact plan_ok141
  refine List.forall_mem_cons.2 ⟨fun fn hf => ?_, ?_⟩
  · rw [Tryz.func149] at hf; cases hf; exact plan_ok149
  refine List.forall_mem_cons.2 ⟨fun fn hf => ?_, ?_⟩
  · rw [Tryz.func150] at hf; cases hf; exact plan_ok150
  refine List.forall_mem_cons.2 ⟨fun fn hf => ?_, ?_⟩
  · rw [Tryz.func151] at hf; cases hf; exact plan_ok151
  refine List.forall_mem_cons.2 ⟨fun fn hf => ?_, ?_⟩
  · rw [Tryz.func153] at hf; cases hf; exact plan_ok153
  refine List.forall_mem_cons.2 ⟨fun fn hf => ?_, ?_⟩
  · rw [Tryz.func154] at hf; cases hf; exact plan_ok154
  refine List.forall_mem_cons.2 ⟨fun fn hf => ?_, ?_⟩
  · rw [Tryz.func157] at hf; cases hf; exact plan_ok157
  refine List.forall_mem_cons.2 ⟨fun fn hf => ?_, ?_⟩
  · rw [Tryz.func159] at hf; cases hf; exact plan_ok159
  refine List.forall_mem_cons.2 ⟨fun fn hf => ?_, ?_⟩
  · rw [Tryz.func160] at hf; cases hf; exact plan_ok160
  refine List.forall_mem_cons.2 ⟨fun fn hf => ?_, ?_⟩
  · rw [Tryz.func161] at hf; cases hf; exact plan_ok161
  refine List.forall_mem_cons.2 ⟨fun fn hf => ?_, ?_⟩
  · rw [Tryz.func166] at hf; cases hf; exact plan_ok166
  refine List.forall_mem_cons.2 ⟨fun fn hf => ?_, ?_⟩
  · rw [Tryz.func167] at hf; cases hf; exact plan_ok167
  refine List.forall_mem_cons.2 ⟨fun fn hf => ?_, ?_⟩
  · rw [Tryz.func171] at hf; cases hf; exact plan_ok171
  refine List.forall_mem_cons.2 ⟨fun fn hf => ?_, ?_⟩
  · rw [Tryz.func173] at hf; cases hf; exact plan_ok173
  refine List.forall_mem_cons.2 ⟨fun fn hf => ?_, ?_⟩
  · rw [Tryz.func174] at hf; cases hf; exact plan_ok174
  refine List.forall_mem_cons.2 ⟨fun fn hf => ?_, ?_⟩
  · rw [Tryz.func175] at hf; cases hf; exact plan_ok175
  refine List.forall_mem_cons.2 ⟨fun fn hf => ?_, ?_⟩
  · rw [Tryz.func176] at hf; cases hf; exact plan_ok176
  refine List.forall_mem_cons.2 ⟨fun fn hf => ?_, ?_⟩
  · rw [Tryz.func177] at hf; cases hf; exact plan_ok177
  refine List.forall_mem_cons.2 ⟨fun fn hf => ?_, ?_⟩
  · rw [Tryz.func178] at hf; cases hf; exact plan_ok178
  refine List.forall_mem_cons.2 ⟨fun fn hf => ?_, ?_⟩
  · rw [Tryz.func179] at hf; cases hf; exact plan_ok179
  refine List.forall_mem_cons.2 ⟨fun fn hf => ?_, ?_⟩
  · rw [Tryz.func182] at hf; cases hf; exact plan_ok182
  refine List.forall_mem_cons.2 ⟨fun fn hf => ?_, ?_⟩
  · rw [Tryz.func186] at hf; cases hf; exact plan_ok186
  refine List.forall_mem_cons.2 ⟨fun fn hf => ?_, ?_⟩
  · rw [Tryz.func189] at hf; cases hf; exact plan_ok189
  refine List.forall_mem_cons.2 ⟨fun fn hf => ?_, ?_⟩
  · rw [Tryz.func190] at hf; cases hf; exact plan_ok190
  refine List.forall_mem_cons.2 ⟨fun fn hf => ?_, ?_⟩
  · rw [Tryz.func191] at hf; cases hf; exact plan_ok191
  refine List.forall_mem_cons.2 ⟨fun fn hf => ?_, ?_⟩
  · rw [Tryz.func192] at hf; cases hf; exact plan_ok192
  refine List.forall_mem_cons.2 ⟨fun fn hf => ?_, ?_⟩
  · rw [Tryz.func194] at hf; cases hf; exact plan_ok194
  refine List.forall_mem_cons.2 ⟨fun fn hf => ?_, ?_⟩
  · rw [Tryz.func197] at hf; cases hf; exact plan_ok197
  refine List.forall_mem_cons.2 ⟨fun fn hf => ?_, ?_⟩
  · rw [Tryz.func200] at hf; cases hf; exact plan_ok200
  refine List.forall_mem_cons.2 ⟨fun fn hf => ?_, ?_⟩
  · rw [Tryz.func201] at hf; cases hf; exact plan_ok201
  refine List.forall_mem_cons.2 ⟨fun fn hf => ?_, ?_⟩
  · rw [Tryz.func203] at hf; cases hf; exact plan_ok203
  refine List.forall_mem_cons.2 ⟨fun fn hf => ?_, ?_⟩
  · rw [Tryz.func221] at hf; cases hf; exact plan_ok221
  refine List.forall_mem_cons.2 ⟨fun fn hf => ?_, ?_⟩
  · rw [Tryz.func222] at hf; cases hf; exact plan_ok222
  refine List.forall_mem_cons.2 ⟨fun fn hf => ?_, ?_⟩
  · rw [Tryz.func226] at hf; cases hf; exact plan_ok226
  exact fun x hx => by cases hx
theorem plans_lot2 : ∀ f ∈ ([227, 231, 234, 236, 237, 239, 240, 241, 242, 253, 254, 255, 256, 257, 258, 259, 266, 267, 281, 284, 286, 287, 288, 290, 294, 295, 296, 297, 299, 304, 307, 308, 309, 313, 321, 323, 324, 325, 327, 328] : List Nat), ∀ fn, Tryz.prog.funcs[f]? = some fn → bodyOk plans f fn = true := by
  refine List.forall_mem_cons.2 ⟨fun fn hf => ?_, ?_⟩
  · rw [Tryz.func227] at hf; cases hf; exact plan_ok227
  refine List.forall_mem_cons.2 ⟨fun fn hf => ?_, ?_⟩
  · rw [Tryz.func231] at hf; cases hf; exact plan_ok231
  refine List.forall_mem_cons.2 ⟨fun fn hf => ?_, ?_⟩
  · rw [Tryz.func234] at hf; cases hf; exact plan_ok234
  refine List.forall_mem_cons.2 ⟨fun fn hf => ?_, ?_⟩
  · rw [Tryz.func236] at hf; cases hf; exact plan_ok236
  refine List.forall_mem_cons.2 ⟨fun fn hf => ?_, ?_⟩
  · rw [Tryz.func237] at hf; cases hf; exact plan_ok237
  refine List.forall_mem_cons.2 ⟨fun fn hf => ?_, ?_⟩
  · rw [Tryz.func239] at hf; cases hf; exact plan_ok239
  refine List.forall_mem_cons.2 ⟨fun fn hf => ?_, ?_⟩
  · rw [Tryz.func240] at hf; cases hf; exact plan_ok240
  refine List.forall_mem_cons.2 ⟨fun fn hf => ?_, ?_⟩
  · rw [Tryz.func241] at hf; cases hf; exact plan_ok241
  refine List.forall_mem_cons.2 ⟨fun fn hf => ?_, ?_⟩
  · rw [Tryz.func242] at hf; cases hf; exact plan_ok242
  refine List.forall_mem_cons.2 ⟨fun fn hf => ?_, ?_⟩
  · rw [Tryz.func253] at hf; cases hf; exact plan_ok253
  refine List.forall_mem_cons.2 ⟨fun fn hf => ?_, ?_⟩
  · rw [Tryz.func254] at hf; cases hf; exact plan_ok254
  refine List.forall_mem_cons.2 ⟨fun fn hf => ?_, ?_⟩
  · rw [Tryz.func255] at hf; cases hf; exact plan_ok255
  refine List.forall_mem_cons.2 ⟨fun fn hf => ?_, ?_⟩
  · rw [Tryz.func256] at hf; cases hf; exact plan_ok256
  refine List.forall_mem_cons.2 ⟨fun fn hf => ?_, ?_⟩
  · rw [Tryz.func257] at hf; cases hf; exact plan_ok257
  refine List.forall_mem_cons.2 ⟨fun fn hf => ?_, ?_⟩
  · rw [Tryz.func258] at hf; cases hf; exact plan_ok258
  refine List.forall_mem_cons.2 ⟨fun fn hf => ?_, ?_⟩
  · rw [Tryz.func259] at hf; cases hf; exact plan_ok259
  refine List.forall_mem_cons.2 ⟨fun fn hf => ?_, ?_⟩
  · rw [Tryz.func266] at hf; cases hf; exact plan_ok266
  refine List.forall_mem_cons.2 ⟨fun fn hf => ?_, ?_⟩
  · rw [Tryz.func267] at hf; cases hf; exact plan_ok267
  refine List.forall_mem_cons.2 ⟨fun fn hf => ?_, ?_⟩
  · rw [Tryz.func281] at hf; cases hf; exact plan_ok281
  refine List.forall_mem_cons.2 ⟨fun fn hf => ?_, ?_⟩
  · rw [Tryz.func284] at hf; cases hf; exact plan_ok284
  refine List.forall_mem_cons.2 ⟨fun fn hf => ?_, ?_⟩
  · rw [Tryz.func286] at hf; cases hf; exact plan_ok286
  refine List.forall_mem_cons.2 ⟨fun fn hf => ?_, ?_⟩
  · rw [Tryz.func287] at hf; cases hf; exact plan_ok287
  refine List.forall_mem_cons.2 ⟨fun fn hf => ?_, ?_⟩
  · rw [Tryz.func288] at hf; cases hf; exact plan_ok288
  refine List.forall_mem_cons.2 ⟨fun fn hf => ?_, ?_⟩
  · rw [Tryz.func290] at hf; cases hf; exact plan_ok290
  refine List.forall_mem_cons.2 ⟨fun fn hf => ?_, ?_⟩
  · rw [Tryz.func294] at hf; cases hf; exact plan_ok294
  refine List.forall_mem_cons.2 ⟨fun fn hf => ?_, ?_⟩
  · rw [Tryz.func295] at hf; cases hf; exact plan_ok295
  refine List.forall_mem_cons.2 ⟨fun fn hf => ?_, ?_⟩
  · rw [Tryz.func296] at hf; cases hf; exact plan_ok296
  refine List.forall_mem_cons.2 ⟨fun fn hf => ?_, ?_⟩
  · rw [Tryz.func297] at hf; cases hf; exact plan_ok297
  refine List.forall_mem_cons.2 ⟨fun fn hf => ?_, ?_⟩
  · rw [Tryz.func299] at hf; cases hf; exact plan_ok299
  refine List.forall_mem_cons.2 ⟨fun fn hf => ?_, ?_⟩
  · rw [Tryz.func304] at hf; cases hf; exact plan_ok304
  refine List.forall_mem_cons.2 ⟨fun fn hf => ?_, ?_⟩
  · rw [Tryz.func307] at hf; cases hf; exact plan_ok307
  refine List.forall_mem_cons.2 ⟨fun fn hf => ?_, ?_⟩
  · rw [Tryz.func308] at hf; cases hf; exact plan_ok308
  refine List.forall_mem_cons.2 ⟨fun fn hf => ?_, ?_⟩
  · rw [Tryz.func309] at hf; cases hf; exact plan_ok309
  refine List.forall_mem_cons.2 ⟨fun fn hf => ?_, ?_⟩
  · rw [Tryz.func313] at hf; cases hf; exact plan_ok313
  refine List.forall_mem_cons.2 ⟨fun fn hf => ?_, ?_⟩
  · rw [Tryz.func321] at hf; cases hf; exact plan_ok321
  refine List.forall_mem_cons.2 ⟨fun fn hf => ?_, ?_⟩
  · rw [Tryz.func323] at hf; cases hf; exact plan_ok323
  refine List.forall_mem_cons.2 ⟨fun fn hf => ?_, ?_⟩
  · rw [Tryz.func324] at hf; cases hf; exact plan_ok324
  refine List.forall_mem_cons.2 ⟨fun fn hf => ?_, ?_⟩
  · rw [Tryz.func325] at hf; cases hf; exact plan_ok325
  refine List.forall_mem_cons.2 ⟨fun fn hf => ?_, ?_⟩
  · rw [Tryz.func327] at hf; cases hf; exact plan_ok327
  refine List.forall_mem_cons.2 ⟨fun fn hf => ?_, ?_⟩
  · rw [Tryz.func328] at hf; cases hf; exact plan_ok328
  exact fun x hx => by cases hx
theorem plans_lot3 : ∀ f ∈ ([330, 333, 334, 335, 339, 340, 341, 348, 349, 350, 351, 352, 354, 355, 356, 358, 359, 360, 361, 366, 368, 372, 373, 375, 377, 378, 379, 380, 382, 383, 385, 386, 396, 397, 399, 403, 404, 406, 410, 411] : List Nat), ∀ fn, Tryz.prog.funcs[f]? = some fn → bodyOk plans f fn = true := by
  refine List.forall_mem_cons.2 ⟨fun fn hf => ?_, ?_⟩
  · rw [Tryz.func330] at hf; cases hf; exact plan_ok330
  refine List.forall_mem_cons.2 ⟨fun fn hf => ?_, ?_⟩
  · rw [Tryz.func333] at hf; cases hf; exact plan_ok333
  refine List.forall_mem_cons.2 ⟨fun fn hf => ?_, ?_⟩
  · rw [Tryz.func334] at hf; cases hf; exact plan_ok334
  refine List.forall_mem_cons.2 ⟨fun fn hf => ?_, ?_⟩
  · rw [Tryz.func335] at hf; cases hf; exact plan_ok335
  refine List.forall_mem_cons.2 ⟨fun fn hf => ?_, ?_⟩
  · rw [Tryz.func339] at hf; cases hf; exact plan_ok339
  refine List.forall_mem_cons.2 ⟨fun fn hf => ?_, ?_⟩
  · rw [Tryz.func340] at hf; cases hf; exact plan_ok340
  refine List.forall_mem_cons.2 ⟨fun fn hf => ?_, ?_⟩
  · rw [Tryz.func341] at hf; cases hf; exact plan_ok341
  refine List.forall_mem_cons.2 ⟨fun fn hf => ?_, ?_⟩
  · rw [Tryz.func348] at hf; cases hf; exact plan_ok348
  refine List.forall_mem_cons.2 ⟨fun fn hf => ?_, ?_⟩
  · rw [Tryz.func349] at hf; cases hf; exact plan_ok349
  refine List.forall_mem_cons.2 ⟨fun fn hf => ?_, ?_⟩
  · rw [Tryz.func350] at hf; cases hf; exact plan_ok350
  refine List.forall_mem_cons.2 ⟨fun fn hf => ?_, ?_⟩
  · rw [Tryz.func351] at hf; cases hf; exact plan_ok351
  refine List.forall_mem_cons.2 ⟨fun fn hf => ?_, ?_⟩
  · rw [Tryz.func352] at hf; cases hf; exact plan_ok352
  refine List.forall_mem_cons.2 ⟨fun fn hf => ?_, ?_⟩
  · rw [Tryz.func354] at hf; cases hf; exact plan_ok354
  refine List.forall_mem_cons.2 ⟨fun fn hf => ?_, ?_⟩
  · rw [Tryz.func355] at hf; cases hf; exact plan_ok355
  refine List.forall_mem_cons.2 ⟨fun fn hf => ?_, ?_⟩
  · rw [Tryz.func356] at hf; cases hf; exact plan_ok356
  refine List.forall_mem_cons.2 ⟨fun fn hf => ?_, ?_⟩
  · rw [Tryz.func358] at hf; cases hf; exact plan_ok358
  refine List.forall_mem_cons.2 ⟨fun fn hf => ?_, ?_⟩
  · rw [Tryz.func359] at hf; cases hf; exact plan_ok359
  refine List.forall_mem_cons.2 ⟨fun fn hf => ?_, ?_⟩
  · rw [Tryz.func360] at hf; cases hf; exact plan_ok360
  refine List.forall_mem_cons.2 ⟨fun fn hf => ?_, ?_⟩
  · rw [Tryz.func361] at hf; cases hf; exact plan_ok361
  refine List.forall_mem_cons.2 ⟨fun fn hf => ?_, ?_⟩
  · rw [Tryz.func366] at hf; cases hf; exact plan_ok366
  refine List.forall_mem_cons.2 ⟨fun fn hf => ?_, ?_⟩
  · rw [Tryz.func368] at hf; cases hf; exact plan_ok368
  refine List.forall_mem_cons.2 ⟨fun fn hf => ?_, ?_⟩
  · rw [Tryz.func372] at hf; cases hf; exact plan_ok372
  refine List.forall_mem_cons.2 ⟨fun fn hf => ?_, ?_⟩
  · rw [Tryz.func373] at hf; cases hf; exact plan_ok373
  refine List.forall_mem_cons.2 ⟨fun fn hf => ?_, ?_⟩
  · rw [Tryz.func375] at hf; cases hf; exact plan_ok375
  refine List.forall_mem_cons.2 ⟨fun fn hf => ?_, ?_⟩
  · rw [Tryz.func377] at hf; cases hf; exact plan_ok377
  refine List.forall_mem_cons.2 ⟨fun fn hf => ?_, ?_⟩
  · rw [Tryz.func378] at hf; cases hf; exact plan_ok378
  refine List.forall_mem_cons.2 ⟨fun fn hf => ?_, ?_⟩
  · rw [Tryz.func379] at hf; cases hf; exact plan_ok379
  refine List.forall_mem_cons.2 ⟨fun fn hf => ?_, ?_⟩
  · rw [Tryz.func380] at hf; cases hf; exact plan_ok380
  refine List.forall_mem_cons.2 ⟨fun fn hf => ?_, ?_⟩
  · rw [Tryz.func382] at hf; cases hf; exact plan_ok382
  refine List.forall_mem_cons.2 ⟨fun fn hf => ?_, ?_⟩
  · rw [Tryz.func383] at hf; cases hf; exact plan_ok383
  refine List.forall_mem_cons.2 ⟨fun fn hf => ?_, ?_⟩
  · rw [Tryz.func385] at hf; cases hf; exact plan_ok385
  refine List.forall_mem_cons.2 ⟨fun fn hf => ?_, ?_⟩
  · rw [Tryz.func386] at hf; cases hf; exact plan_ok386
  refine List.forall_mem_cons.2 ⟨fun fn hf => ?_, ?_⟩
  · rw [Tryz.func396] at hf; cases hf; exact plan_ok396
  refine List.forall_mem_cons.2 ⟨fun fn hf => ?_, ?_⟩
  · rw [Tryz.func397] at hf; cases hf; exact plan_ok397
  refine List.forall_mem_cons.2 ⟨fun fn hf => ?_, ?_⟩
  · rw [Tryz.func399] at hf; cases hf; exact plan_ok399
  refine List.forall_mem_cons.2 ⟨fun fn hf => ?_, ?_⟩
  · rw [Tryz.func403] at hf; cases hf; exact plan_ok403
  refine List.forall_mem_cons.2 ⟨fun fn hf => ?_, ?_⟩
  · rw [Tryz.func404] at hf; cases hf; exact plan_ok404
  refine List.forall_mem_cons.2 ⟨fun fn hf => ?_, ?_⟩
  · rw [Tryz.func406] at hf; cases hf; exact plan_ok406
  refine List.forall_mem_cons.2 ⟨fun fn hf => ?_, ?_⟩
  · rw [Tryz.func410] at hf; cases hf; exact plan_ok410
  refine List.forall_mem_cons.2 ⟨fun fn hf => ?_, ?_⟩
  · rw [Tryz.func411] at hf; cases hf; exact plan_ok411
  exact fun x hx => by cases hx
theorem plans_lot4 : ∀ f ∈ ([413, 414, 415, 416, 418, 419, 421, 422, 424, 427, 452, 454, 455, 459, 462, 463, 466, 468, 469, 473, 475, 476, 480, 482, 486, 487, 488, 489] : List Nat), ∀ fn, Tryz.prog.funcs[f]? = some fn → bodyOk plans f fn = true := by
  refine List.forall_mem_cons.2 ⟨fun fn hf => ?_, ?_⟩
  · rw [Tryz.func413] at hf; cases hf; exact plan_ok413
  refine List.forall_mem_cons.2 ⟨fun fn hf => ?_, ?_⟩
  · rw [Tryz.func414] at hf; cases hf; exact plan_ok414
  refine List.forall_mem_cons.2 ⟨fun fn hf => ?_, ?_⟩
  · rw [Tryz.func415] at hf; cases hf; exact plan_ok415
  refine List.forall_mem_cons.2 ⟨fun fn hf => ?_, ?_⟩
  · rw [Tryz.func416] at hf; cases hf; exact plan_ok416
  refine List.forall_mem_cons.2 ⟨fun fn hf => ?_, ?_⟩
  · rw [Tryz.func418] at hf; cases hf; exact plan_ok418
  refine List.forall_mem_cons.2 ⟨fun fn hf => ?_, ?_⟩
  · rw [Tryz.func419] at hf; cases hf; exact plan_ok419
  refine List.forall_mem_cons.2 ⟨fun fn hf => ?_, ?_⟩
  · rw [Tryz.func421] at hf; cases hf; exact plan_ok421
  refine List.forall_mem_cons.2 ⟨fun fn hf => ?_, ?_⟩
  · rw [Tryz.func422] at hf; cases hf; exact plan_ok422
  refine List.forall_mem_cons.2 ⟨fun fn hf => ?_, ?_⟩
  · rw [Tryz.func424] at hf; cases hf; exact plan_ok424
  refine List.forall_mem_cons.2 ⟨fun fn hf => ?_, ?_⟩
  · rw [Tryz.func427] at hf; cases hf; exact plan_ok427
  refine List.forall_mem_cons.2 ⟨fun fn hf => ?_, ?_⟩
  · rw [Tryz.func452] at hf; cases hf; exact plan_ok452
  refine List.forall_mem_cons.2 ⟨fun fn hf => ?_, ?_⟩
  · rw [Tryz.func454] at hf; cases hf; exact plan_ok454
  refine List.forall_mem_cons.2 ⟨fun fn hf => ?_, ?_⟩
  · rw [Tryz.func455] at hf; cases hf; exact plan_ok455
  refine List.forall_mem_cons.2 ⟨fun fn hf => ?_, ?_⟩
  · rw [Tryz.func459] at hf; cases hf; exact plan_ok459
  refine List.forall_mem_cons.2 ⟨fun fn hf => ?_, ?_⟩
  · rw [Tryz.func462] at hf; cases hf; exact plan_ok462
  refine List.forall_mem_cons.2 ⟨fun fn hf => ?_, ?_⟩
  · rw [Tryz.func463] at hf; cases hf; exact plan_ok463
  refine List.forall_mem_cons.2 ⟨fun fn hf => ?_, ?_⟩
  · rw [Tryz.func466] at hf; cases hf; exact plan_ok466
  refine List.forall_mem_cons.2 ⟨fun fn hf => ?_, ?_⟩
  · rw [Tryz.func468] at hf; cases hf; exact plan_ok468
  refine List.forall_mem_cons.2 ⟨fun fn hf => ?_, ?_⟩
  · rw [Tryz.func469] at hf; cases hf; exact plan_ok469
  refine List.forall_mem_cons.2 ⟨fun fn hf => ?_, ?_⟩
  · rw [Tryz.func473] at hf; cases hf; exact plan_ok473
  refine List.forall_mem_cons.2 ⟨fun fn hf => ?_, ?_⟩
  · rw [Tryz.func475] at hf; cases hf; exact plan_ok475
  refine List.forall_mem_cons.2 ⟨fun fn hf => ?_, ?_⟩
  · rw [Tryz.func476] at hf; cases hf; exact plan_ok476
  refine List.forall_mem_cons.2 ⟨fun fn hf => ?_, ?_⟩
  · rw [Tryz.func480] at hf; cases hf; exact plan_ok480
  refine List.forall_mem_cons.2 ⟨fun fn hf => ?_, ?_⟩
  · rw [Tryz.func482] at hf; cases hf; exact plan_ok482
  refine List.forall_mem_cons.2 ⟨fun fn hf => ?_, ?_⟩
  · rw [Tryz.func486] at hf; cases hf; exact plan_ok486
  refine List.forall_mem_cons.2 ⟨fun fn hf => ?_, ?_⟩
  · rw [Tryz.func487] at hf; cases hf; exact plan_ok487
  refine List.forall_mem_cons.2 ⟨fun fn hf => ?_, ?_⟩
  · rw [Tryz.func488] at hf; cases hf; exact plan_ok488
  refine List.forall_mem_cons.2 ⟨fun fn hf => ?_, ?_⟩
  · rw [Tryz.func489] at hf; cases hf; exact plan_ok489
  exact fun x hx => by cases hx
theorem planFs_cut : planFs = [3, 4, 5, 13, 18, 19, 21, 24, 25, 34, 35, 37, 44, 45, 47, 48, 50, 51, 52, 53, 56, 57, 59, 61, 63, 77, 81, 83, 84, 87, 98, 99, 101, 106, 108, 111, 114, 121, 122, 123] ++ [124, 127, 128, 129, 131, 132, 141, 149, 150, 151, 153, 154, 157, 159, 160, 161, 166, 167, 171, 173, 174, 175, 176, 177, 178, 179, 182, 186, 189, 190, 191, 192, 194, 197, 200, 201, 203, 221, 222, 226] ++ [227, 231, 234, 236, 237, 239, 240, 241, 242, 253, 254, 255, 256, 257, 258, 259, 266, 267, 281, 284, 286, 287, 288, 290, 294, 295, 296, 297, 299, 304, 307, 308, 309, 313, 321, 323, 324, 325, 327, 328] ++ [330, 333, 334, 335, 339, 340, 341, 348, 349, 350, 351, 352, 354, 355, 356, 358, 359, 360, 361, 366, 368, 372, 373, 375, 377, 378, 379, 380, 382, 383, 385, 386, 396, 397, 399, 403, 404, 406, 410, 411] ++ [413, 414, 415, 416, 418, 419, 421, 422, 424, 427, 452, 454, 455, 459, 462, 463, 466, 468, 469, 473, 475, 476, 480, 482, 486, 487, 488, 489] := by kernel_rfl
theorem plans_ok : PlansOk Tryz.prog plans := by
  have key : ∀ f fn, Tryz.prog.funcs[f]? = some fn → bodyOk plans f fn = true := by
    intro f fn hf
    have h := List.all_eq_true.1 plans_rest (fn, f) (by rw [List.mem_zipIdx_iff_getElem?]; simpa using hf)
    simp only [Bool.or_eq_true] at h
    rcases h with h | h
    · have h := List.contains_iff_mem.1 h
      rw [planFs_cut] at h
      rcases List.mem_append.1 h with h | h
      rotate_left
      · exact plans_lot4 f h fn hf
      rcases List.mem_append.1 h with h | h
      rotate_left
      · exact plans_lot3 f h fn hf
      rcases List.mem_append.1 h with h | h
      rotate_left
      · exact plans_lot2 f h fn hf
      rcases List.mem_append.1 h with h | h
      rotate_left
      · exact plans_lot1 f h fn hf
      exact plans_lot0 f h fn hf
    · exact h
  refine ⟨fun f fn c hf hc => ?_, fun a ha => by cases ha⟩
  simpa [bodyOk, hc] using key f fn hf

end Go.Proofs.YticednpolhnneaaGreat

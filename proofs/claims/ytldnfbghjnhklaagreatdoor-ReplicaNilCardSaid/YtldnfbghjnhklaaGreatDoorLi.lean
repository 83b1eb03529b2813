/- The library's contracts at this program: names, sorted; numerals; prefixes; runes. -/
import Derived.Shelf.SlIter.Nil
import Derived.Shelf.SortM.Plain
import Derived.Shelf.SortM.SortNone
import Derived.Shelf.Strconv.Itoa3
import Derived.Shelf.Strconv.AtoiAll
import Derived.Shelf.Small.Wraps
import Derived.Shelf.GgClosure.StringsIndexFuncTop
import Derived.Test.YtldnfbghjnhklaaGreatDoorDz
namespace Go.Proofs.YtldnfbghjnhklaaGreatDoor
open Go.RowKit Go.Sx
set_option maxRecDepth 100000
set_option linter.unusedSimpArgs false
set_option linter.unusedVariables false
open Go.Maps Go.Sort Go.Shelf
def nmKeys_ren : Go.Shelf.Ren := ⟨fun | 7 => 228 | 10 => 287 | n => n, fun | 23 => 103 | 26 => 9 | 3 => 22 | 28 => 359 | 0 => 0 | 27 => 358 | 33 => 266 | 4 => 4 | n => n, fun | n => n⟩
theorem nmKeys : Go.Proofs.SlLaysZ.n7 Tryz.prog nmKeys_ren where
  mixed := by kernel_rfl
  f7 := ⟨Tryz.f228.name, by decide, Tryz.func228.trans (congrArg some (by kernel_rfl))⟩
  f10 := ⟨Tryz.f287.name, by decide, Tryz.func287.trans (congrArg some (by kernel_rfl))⟩
  t0 := Tryz.underlying0
  a0 := Tryz.isAgg0
  z0 := Tryz.sizeOf0
  v0 := Tryz.zeroValue0
  t4 := Tryz.underlying4
  a4 := Tryz.isAgg4
  z4 := Tryz.sizeOf4
  v4 := Tryz.zeroValue4
  t23 := Tryz.underlying103
  a23 := Tryz.isAgg103
  z23 := Tryz.sizeOf103
  v23 := Tryz.zeroValue103
  t26 := Tryz.underlying9
  a26 := Tryz.isAgg9
  z26 := Tryz.sizeOf9
  v26 := Tryz.zeroValue9
  t27 := Tryz.underlying358
  a27 := Tryz.isAgg358
  z27 := Tryz.sizeOf358
  v27 := Tryz.zeroValue358
  t28 := Tryz.underlying359
  a28 := Tryz.isAgg359
  z28 := Tryz.sizeOf359
  v28 := Tryz.zeroValue359
  t33 := Tryz.underlying266
  a33 := Tryz.isAgg266
  z33 := Tryz.sizeOf266
  v33 := Tryz.zeroValue266
def nmSorted_ren : Go.Shelf.Ren := ⟨fun | 6 => 227 | 8 => 285 | 9 => 286 | 11 => 328 | 13 => 233 | 12 => 329 | 23 => 301 | 24 => 302 | 14 => 353 | 15 => 354 | 16 => 355 | 17 => 356 | 18 => 357 | 19 => 358 | 20 => 359 | 21 => 360 | 22 => 361 | 25 => 378 | 26 => 338 | 27 => 339 | 28 => 379 | 29 => 380 | 30 => 381 | 31 => 391 | n => n, fun | 26 => 9 | 28 => 359 | 24 => 269 | 0 => 0 | 3 => 3 | 37 => 246 | 48 => 295 | 50 => 230 | 4 => 4 | 40 => 417 | 39 => 416 | 45 => 25 | 5 => 5 | 9 => 9 | 51 => 451 | 55 => 228 | 57 => 480 | 58 => 100 | 33 => 266 | n => n, fun | n => n⟩
theorem nmSorted : Go.Proofs.SlLaysZ.n6 Tryz.prog nmSorted_ren where
  mixed := by kernel_rfl
  f6 := ⟨Tryz.f227.name, by decide, Tryz.func227.trans (congrArg some (by kernel_rfl))⟩
  f8 := ⟨Tryz.f285.name, by decide, Tryz.func285.trans (congrArg some (by kernel_rfl))⟩
  f11 := ⟨Tryz.f328.name, by decide, Tryz.func328.trans (congrArg some (by kernel_rfl))⟩
  t0 := Tryz.underlying0
  a0 := Tryz.isAgg0
  z0 := Tryz.sizeOf0
  v0 := Tryz.zeroValue0
  t24 := Tryz.underlying269
  a24 := Tryz.isAgg269
  z24 := Tryz.sizeOf269
  v24 := Tryz.zeroValue269
  t26 := Tryz.underlying9
  a26 := Tryz.isAgg9
  z26 := Tryz.sizeOf9
  v26 := Tryz.zeroValue9
  t28 := Tryz.underlying359
  a28 := Tryz.isAgg359
  z28 := Tryz.sizeOf359
  v28 := Tryz.zeroValue359
  i26 := by kernel_rfl
def nmSortS_ren : Go.Shelf.Ren := ⟨fun | 6 => 286 | 8 => 233 | 9 => 329 | 19 => 301 | 20 => 302 | 21 => 353 | 22 => 354 | 23 => 355 | 24 => 356 | 25 => 357 | 26 => 358 | 27 => 359 | 28 => 360 | 29 => 361 | 36 => 378 | 31 => 338 | 32 => 339 | 37 => 379 | 38 => 380 | 39 => 381 | 41 => 391 | n => n, fun | 27 => 269 | 29 => 9 | 3 => 3 | 32 => 246 | 26 => 269 | 0 => 0 | 44 => 295 | 46 => 230 | 4 => 4 | 36 => 417 | 35 => 416 | 41 => 25 | 5 => 5 | 9 => 9 | 53 => 451 | 57 => 228 | 63 => 480 | 64 => 100 | n => n, fun | n => n⟩
theorem nmSortS : Go.Proofs.SlLaysM.n6 Tryz.prog nmSortS_ren where
  mixed := by kernel_rfl
  f6 := ⟨Tryz.f286.name, by decide, Tryz.func286.trans (congrArg some (by kernel_rfl))⟩
  f8 := Tryz.func233.trans (congrArg some (by kernel_rfl))
  f9 := ⟨Tryz.f329.name, by decide, Tryz.func329.trans (congrArg some (by kernel_rfl))⟩
  f19 := Tryz.func301.trans (congrArg some (by kernel_rfl))
  f20 := Tryz.func302.trans (congrArg some (by kernel_rfl))
  f21 := ⟨Tryz.f353.name, by decide, Tryz.func353.trans (congrArg some (by kernel_rfl))⟩
  f22 := ⟨Tryz.f354.name, by decide, Tryz.func354.trans (congrArg some (by kernel_rfl))⟩
  f23 := ⟨Tryz.f355.name, by decide, Tryz.func355.trans (congrArg some (by kernel_rfl))⟩
  f24 := ⟨Tryz.f356.name, by decide, Tryz.func356.trans (congrArg some (by kernel_rfl))⟩
  f25 := ⟨Tryz.f357.name, by decide, Tryz.func357.trans (congrArg some (by kernel_rfl))⟩
  f26 := ⟨Tryz.f358.name, by decide, Tryz.func358.trans (congrArg some (by kernel_rfl))⟩
  f27 := ⟨Tryz.f359.name, by decide, Tryz.func359.trans (congrArg some (by kernel_rfl))⟩
  f28 := ⟨Tryz.f360.name, by decide, Tryz.func360.trans (congrArg some (by kernel_rfl))⟩
  f29 := ⟨Tryz.f361.name, by decide, Tryz.func361.trans (congrArg some (by kernel_rfl))⟩
  f31 := Tryz.func338.trans (congrArg some (by kernel_rfl))
  f32 := Tryz.func339.trans (congrArg some (by kernel_rfl))
  f36 := ⟨Tryz.f378.name, by decide, Tryz.func378.trans (congrArg some (by kernel_rfl))⟩
  f37 := ⟨Tryz.f379.name, by decide, Tryz.func379.trans (congrArg some (by kernel_rfl))⟩
  f38 := ⟨Tryz.f380.name, by decide, Tryz.func380.trans (congrArg some (by kernel_rfl))⟩
  f39 := ⟨Tryz.f381.name, by decide, Tryz.func381.trans (congrArg some (by kernel_rfl))⟩
  f41 := ⟨Tryz.f391.name, by decide, Tryz.func391.trans (congrArg some (by kernel_rfl))⟩
  t0 := Tryz.underlying0
  a0 := Tryz.isAgg0
  z0 := Tryz.sizeOf0
  v0 := Tryz.zeroValue0
  t3 := Tryz.underlying3
  a3 := Tryz.isAgg3
  z3 := Tryz.sizeOf3
  v3 := Tryz.zeroValue3
  t4 := Tryz.underlying4
  a4 := Tryz.isAgg4
  z4 := Tryz.sizeOf4
  v4 := Tryz.zeroValue4
  t5 := Tryz.underlying5
  a5 := Tryz.isAgg5
  z5 := Tryz.sizeOf5
  v5 := Tryz.zeroValue5
  t9 := Tryz.underlying9
  a9 := Tryz.isAgg9
  z9 := Tryz.sizeOf9
  v9 := Tryz.zeroValue9
  t26 := Tryz.underlying269
  a26 := Tryz.isAgg269
  z26 := Tryz.sizeOf269
  v26 := Tryz.zeroValue269
  t27 := Tryz.underlying269
  a27 := Tryz.isAgg269
  z27 := Tryz.sizeOf269
  v27 := Tryz.zeroValue269
  t29 := Tryz.underlying9
  a29 := Tryz.isAgg9
  z29 := Tryz.sizeOf9
  v29 := Tryz.zeroValue9
  t32 := Tryz.underlying246
  a32 := Tryz.isAgg246
  z32 := Tryz.sizeOf246
  v32 := Tryz.zeroValue246
  t35 := Tryz.underlying416
  a35 := Tryz.isAgg416
  z35 := Tryz.sizeOf416
  v35 := Tryz.zeroValue416
  t36 := Tryz.underlying417
  a36 := Tryz.isAgg417
  z36 := Tryz.sizeOf417
  v36 := Tryz.zeroValue417
  t41 := Tryz.underlying25
  a41 := Tryz.isAgg25
  z41 := Tryz.sizeOf25
  v41 := Tryz.zeroValue25
  t44 := Tryz.underlying295
  a44 := Tryz.isAgg295
  z44 := Tryz.sizeOf295
  v44 := Tryz.zeroValue295
  t46 := Tryz.underlying230
  a46 := Tryz.isAgg230
  z46 := Tryz.sizeOf230
  v46 := Tryz.zeroValue230
  t53 := Tryz.underlying451
  a53 := Tryz.isAgg451
  z53 := Tryz.sizeOf451
  v53 := Tryz.zeroValue451
  t57 := Tryz.underlying228
  a57 := Tryz.isAgg228
  z57 := Tryz.sizeOf228
  v57 := Tryz.zeroValue228
  t63 := Tryz.underlying480
  a63 := Tryz.isAgg480
  z63 := Tryz.sizeOf480
  v63 := Tryz.zeroValue480
  t64 := Tryz.underlying100
  a64 := Tryz.isAgg100
  z64 := Tryz.sizeOf100
  v64 := Tryz.zeroValue100
def nmSortI_ren : Go.Shelf.Ren := ⟨fun | 5 => 160 | 8 => 233 | 7 => 232 | 19 => 301 | 20 => 302 | 10 => 292 | 11 => 293 | 12 => 294 | 13 => 295 | 14 => 296 | 15 => 297 | 16 => 298 | 17 => 299 | 18 => 300 | 30 => 337 | 31 => 338 | 32 => 339 | 33 => 340 | 34 => 341 | 35 => 342 | 40 => 369 | n => n, fun | 23 => 183 | 25 => 3 | 3 => 3 | 32 => 246 | 22 => 183 | 0 => 0 | 44 => 295 | 46 => 230 | 4 => 4 | 36 => 417 | 35 => 416 | 41 => 25 | 5 => 5 | 9 => 9 | 53 => 451 | 57 => 228 | 63 => 480 | 64 => 100 | n => n, fun | n => n⟩
theorem nmSortI : Go.Proofs.SlLaysM.n5 Tryz.prog nmSortI_ren where
  mixed := by kernel_rfl
  f5 := ⟨Tryz.f160.name, by decide, Tryz.func160.trans (congrArg some (by kernel_rfl))⟩
  f7 := ⟨Tryz.f232.name, by decide, Tryz.func232.trans (congrArg some (by kernel_rfl))⟩
  f8 := Tryz.func233.trans (congrArg some (by kernel_rfl))
  f10 := ⟨Tryz.f292.name, by decide, Tryz.func292.trans (congrArg some (by kernel_rfl))⟩
  f11 := ⟨Tryz.f293.name, by decide, Tryz.func293.trans (congrArg some (by kernel_rfl))⟩
  f12 := ⟨Tryz.f294.name, by decide, Tryz.func294.trans (congrArg some (by kernel_rfl))⟩
  f13 := ⟨Tryz.f295.name, by decide, Tryz.func295.trans (congrArg some (by kernel_rfl))⟩
  f14 := ⟨Tryz.f296.name, by decide, Tryz.func296.trans (congrArg some (by kernel_rfl))⟩
  f15 := ⟨Tryz.f297.name, by decide, Tryz.func297.trans (congrArg some (by kernel_rfl))⟩
  f16 := ⟨Tryz.f298.name, by decide, Tryz.func298.trans (congrArg some (by kernel_rfl))⟩
  f17 := ⟨Tryz.f299.name, by decide, Tryz.func299.trans (congrArg some (by kernel_rfl))⟩
  f18 := ⟨Tryz.f300.name, by decide, Tryz.func300.trans (congrArg some (by kernel_rfl))⟩
  f19 := Tryz.func301.trans (congrArg some (by kernel_rfl))
  f20 := Tryz.func302.trans (congrArg some (by kernel_rfl))
  f30 := ⟨Tryz.f337.name, by decide, Tryz.func337.trans (congrArg some (by kernel_rfl))⟩
  f31 := Tryz.func338.trans (congrArg some (by kernel_rfl))
  f32 := Tryz.func339.trans (congrArg some (by kernel_rfl))
  f33 := ⟨Tryz.f340.name, by decide, Tryz.func340.trans (congrArg some (by kernel_rfl))⟩
  f34 := ⟨Tryz.f341.name, by decide, Tryz.func341.trans (congrArg some (by kernel_rfl))⟩
  f35 := ⟨Tryz.f342.name, by decide, Tryz.func342.trans (congrArg some (by kernel_rfl))⟩
  f40 := ⟨Tryz.f369.name, by decide, Tryz.func369.trans (congrArg some (by kernel_rfl))⟩
  t0 := Tryz.underlying0
  a0 := Tryz.isAgg0
  z0 := Tryz.sizeOf0
  v0 := Tryz.zeroValue0
  t3 := Tryz.underlying3
  a3 := Tryz.isAgg3
  z3 := Tryz.sizeOf3
  v3 := Tryz.zeroValue3
  t4 := Tryz.underlying4
  a4 := Tryz.isAgg4
  z4 := Tryz.sizeOf4
  v4 := Tryz.zeroValue4
  t5 := Tryz.underlying5
  a5 := Tryz.isAgg5
  z5 := Tryz.sizeOf5
  v5 := Tryz.zeroValue5
  t9 := Tryz.underlying9
  a9 := Tryz.isAgg9
  z9 := Tryz.sizeOf9
  v9 := Tryz.zeroValue9
  t22 := Tryz.underlying183
  a22 := Tryz.isAgg183
  z22 := Tryz.sizeOf183
  v22 := Tryz.zeroValue183
  t23 := Tryz.underlying183
  a23 := Tryz.isAgg183
  z23 := Tryz.sizeOf183
  v23 := Tryz.zeroValue183
  t25 := Tryz.underlying3
  a25 := Tryz.isAgg3
  z25 := Tryz.sizeOf3
  v25 := Tryz.zeroValue3
  t32 := Tryz.underlying246
  a32 := Tryz.isAgg246
  z32 := Tryz.sizeOf246
  v32 := Tryz.zeroValue246
  t35 := Tryz.underlying416
  a35 := Tryz.isAgg416
  z35 := Tryz.sizeOf416
  v35 := Tryz.zeroValue416
  t36 := Tryz.underlying417
  a36 := Tryz.isAgg417
  z36 := Tryz.sizeOf417
  v36 := Tryz.zeroValue417
  t41 := Tryz.underlying25
  a41 := Tryz.isAgg25
  z41 := Tryz.sizeOf25
  v41 := Tryz.zeroValue25
  t44 := Tryz.underlying295
  a44 := Tryz.isAgg295
  z44 := Tryz.sizeOf295
  v44 := Tryz.zeroValue295
  t46 := Tryz.underlying230
  a46 := Tryz.isAgg230
  z46 := Tryz.sizeOf230
  v46 := Tryz.zeroValue230
  t53 := Tryz.underlying451
  a53 := Tryz.isAgg451
  z53 := Tryz.sizeOf451
  v53 := Tryz.zeroValue451
  t57 := Tryz.underlying228
  a57 := Tryz.isAgg228
  z57 := Tryz.sizeOf228
  v57 := Tryz.zeroValue228
  t63 := Tryz.underlying480
  a63 := Tryz.isAgg480
  z63 := Tryz.sizeOf480
  v63 := Tryz.zeroValue480
  t64 := Tryz.underlying100
  a64 := Tryz.isAgg100
  z64 := Tryz.sizeOf100
  v64 := Tryz.zeroValue100
def nmItoa_ren : Go.Shelf.Ren := ⟨fun | 171 => 231 | 243 => 291 | 246 => 336 | 283 => 365 | 284 => 366 | 285 => 367 | 286 => 368 | 129 => 302 | 317 => 384 | 318 => 385 | 319 => 386 | 320 => 387 | 337 => 392 | 338 => 393 | n => n, fun | 3 => 3 | 9 => 9 | 2 => 2 | 4 => 4 | 171 => 476 | 0 => 0 | 53 => 230 | 37 => 22 | 5 => 5 | 173 => 478 | 212 => 495 | 51 => 295 | 20 => 20 | 213 => 496 | 46 => 246 | 232 => 44 | 233 => 172 | n => n, fun | 17 => 3 | 18 => 0 | 19 => 4 | n => n⟩
theorem nmItoa : Go.Proofs.Lays.n171 Tryz.prog nmItoa_ren where
  mixed := by kernel_rfl
  f129 := Tryz.func302.trans (congrArg some (by kernel_rfl))
  f171 := Tryz.func231.trans (congrArg some (by kernel_rfl))
  f243 := Tryz.func291.trans (congrArg some (by kernel_rfl))
  f246 := Tryz.func336.trans (congrArg some (by kernel_rfl))
  f283 := Tryz.func365.trans (congrArg some (by kernel_rfl))
  f284 := Tryz.func366.trans (congrArg some (by kernel_rfl))
  f285 := Tryz.func367.trans (congrArg some (by kernel_rfl))
  f286 := Tryz.func368.trans (congrArg some (by kernel_rfl))
  f317 := Tryz.func384.trans (congrArg some (by kernel_rfl))
  f318 := Tryz.func385.trans (congrArg some (by kernel_rfl))
  f319 := Tryz.func386.trans (congrArg some (by kernel_rfl))
  f320 := Tryz.func387.trans (congrArg some (by kernel_rfl))
  f337 := Tryz.func392.trans (congrArg some (by kernel_rfl))
  f338 := Tryz.func393.trans (congrArg some (by kernel_rfl))
  t0 := Tryz.underlying0
  a0 := Tryz.isAgg0
  z0 := Tryz.sizeOf0
  v0 := Tryz.zeroValue0
  t2 := Tryz.underlying2
  a2 := Tryz.isAgg2
  z2 := Tryz.sizeOf2
  v2 := Tryz.zeroValue2
  t3 := Tryz.underlying3
  a3 := Tryz.isAgg3
  z3 := Tryz.sizeOf3
  v3 := Tryz.zeroValue3
  t4 := Tryz.underlying4
  a4 := Tryz.isAgg4
  z4 := Tryz.sizeOf4
  v4 := Tryz.zeroValue4
  t5 := Tryz.underlying5
  a5 := Tryz.isAgg5
  z5 := Tryz.sizeOf5
  v5 := Tryz.zeroValue5
  t9 := Tryz.underlying9
  a9 := Tryz.isAgg9
  z9 := Tryz.sizeOf9
  v9 := Tryz.zeroValue9
  t20 := Tryz.underlying20
  a20 := Tryz.isAgg20
  z20 := Tryz.sizeOf20
  v20 := Tryz.zeroValue20
  t37 := Tryz.underlying22
  a37 := Tryz.isAgg22
  z37 := Tryz.sizeOf22
  v37 := Tryz.zeroValue22
  t46 := Tryz.underlying246
  a46 := Tryz.isAgg246
  z46 := Tryz.sizeOf246
  v46 := Tryz.zeroValue246
  t51 := Tryz.underlying295
  a51 := Tryz.isAgg295
  z51 := Tryz.sizeOf295
  v51 := Tryz.zeroValue295
  t53 := Tryz.underlying230
  a53 := Tryz.isAgg230
  z53 := Tryz.sizeOf230
  v53 := Tryz.zeroValue230
  t171 := Tryz.underlying476
  a171 := Tryz.isAgg476
  z171 := Tryz.sizeOf476
  v171 := Tryz.zeroValue476
  t173 := Tryz.underlying478
  a173 := Tryz.isAgg478
  z173 := Tryz.sizeOf478
  v173 := Tryz.zeroValue478
  t212 := Tryz.underlying495
  a212 := Tryz.isAgg495
  z212 := Tryz.sizeOf495
  v212 := Tryz.zeroValue495
  t213 := Tryz.underlying496
  a213 := Tryz.isAgg496
  z213 := Tryz.sizeOf496
  t232 := Tryz.underlying44
  a232 := Tryz.isAgg44
  z232 := Tryz.sizeOf44
  v232 := Tryz.zeroValue44
  t233 := Tryz.underlying172
  a233 := Tryz.isAgg172
  z233 := Tryz.sizeOf172
  v233 := Tryz.zeroValue172
  g17 := by kernel_rfl
  g18 := by kernel_rfl
  g19 := by kernel_rfl
def nmAtoi_ren : Go.Shelf.Ren := ⟨fun | 172 => 230 | 244 => 289 | 245 => 290 | 247 => 331 | 279 => 332 | 280 => 333 | 281 => 334 | 282 => 335 | 287 => 362 | 316 => 363 | 171 => 231 | 205 => 364 | 321 => 382 | 322 => 383 | 243 => 291 | 246 => 336 | 283 => 365 | 284 => 366 | 285 => 367 | 286 => 368 | 129 => 302 | 317 => 384 | 318 => 385 | 319 => 386 | 320 => 387 | 337 => 392 | 338 => 393 | n => n, fun | 9 => 9 | 3 => 3 | 75 => 364 | 76 => 365 | 4 => 4 | 5 => 5 | 167 => 444 | 37 => 22 | 0 => 0 | 85 => 445 | 2 => 2 | 168 => 447 | 53 => 230 | 175 => 470 | 46 => 246 | 210 => 474 | 127 => 490 | 145 => 493 | 143 => 491 | 21 => 21 | 171 => 476 | 173 => 478 | 212 => 495 | 51 => 295 | 20 => 20 | 213 => 496 | 232 => 44 | 233 => 172 | 80 => 501 | n => n, fun | 15 => 1 | 16 => 2 | 17 => 3 | 18 => 0 | 19 => 4 | n => n⟩
theorem nmAtoi : Go.Proofs.LaysC.n172 Tryz.prog nmAtoi_ren where
  mixed := by kernel_rfl
  f129 := Tryz.func302.trans (congrArg some (by kernel_rfl))
  f171 := Tryz.func231.trans (congrArg some (by kernel_rfl))
  f172 := Tryz.func230.trans (congrArg some (by kernel_rfl))
  f205 := Tryz.func364.trans (congrArg some (by kernel_rfl))
  f243 := Tryz.func291.trans (congrArg some (by kernel_rfl))
  f244 := Tryz.func289.trans (congrArg some (by kernel_rfl))
  f245 := Tryz.func290.trans (congrArg some (by kernel_rfl))
  f246 := Tryz.func336.trans (congrArg some (by kernel_rfl))
  f247 := Tryz.func331.trans (congrArg some (by kernel_rfl))
  f279 := Tryz.func332.trans (congrArg some (by kernel_rfl))
  f280 := Tryz.func333.trans (congrArg some (by kernel_rfl))
  f281 := Tryz.func334.trans (congrArg some (by kernel_rfl))
  f282 := Tryz.func335.trans (congrArg some (by kernel_rfl))
  f283 := Tryz.func365.trans (congrArg some (by kernel_rfl))
  f284 := Tryz.func366.trans (congrArg some (by kernel_rfl))
  f285 := Tryz.func367.trans (congrArg some (by kernel_rfl))
  f286 := Tryz.func368.trans (congrArg some (by kernel_rfl))
  f287 := Tryz.func362.trans (congrArg some (by kernel_rfl))
  f316 := Tryz.func363.trans (congrArg some (by kernel_rfl))
  f317 := Tryz.func384.trans (congrArg some (by kernel_rfl))
  f318 := Tryz.func385.trans (congrArg some (by kernel_rfl))
  f319 := Tryz.func386.trans (congrArg some (by kernel_rfl))
  f320 := Tryz.func387.trans (congrArg some (by kernel_rfl))
  f321 := Tryz.func382.trans (congrArg some (by kernel_rfl))
  f322 := Tryz.func383.trans (congrArg some (by kernel_rfl))
  f337 := Tryz.func392.trans (congrArg some (by kernel_rfl))
  f338 := Tryz.func393.trans (congrArg some (by kernel_rfl))
  t0 := Tryz.underlying0
  a0 := Tryz.isAgg0
  z0 := Tryz.sizeOf0
  v0 := Tryz.zeroValue0
  t2 := Tryz.underlying2
  a2 := Tryz.isAgg2
  z2 := Tryz.sizeOf2
  v2 := Tryz.zeroValue2
  t3 := Tryz.underlying3
  a3 := Tryz.isAgg3
  z3 := Tryz.sizeOf3
  v3 := Tryz.zeroValue3
  t4 := Tryz.underlying4
  a4 := Tryz.isAgg4
  z4 := Tryz.sizeOf4
  v4 := Tryz.zeroValue4
  t5 := Tryz.underlying5
  a5 := Tryz.isAgg5
  z5 := Tryz.sizeOf5
  v5 := Tryz.zeroValue5
  t9 := Tryz.underlying9
  a9 := Tryz.isAgg9
  z9 := Tryz.sizeOf9
  v9 := Tryz.zeroValue9
  t20 := Tryz.underlying20
  a20 := Tryz.isAgg20
  z20 := Tryz.sizeOf20
  v20 := Tryz.zeroValue20
  t21 := Tryz.underlying21
  a21 := Tryz.isAgg21
  z21 := Tryz.sizeOf21
  v21 := Tryz.zeroValue21
  t37 := Tryz.underlying22
  a37 := Tryz.isAgg22
  z37 := Tryz.sizeOf22
  v37 := Tryz.zeroValue22
  t46 := Tryz.underlying246
  a46 := Tryz.isAgg246
  z46 := Tryz.sizeOf246
  v46 := Tryz.zeroValue246
  t51 := Tryz.underlying295
  a51 := Tryz.isAgg295
  z51 := Tryz.sizeOf295
  v51 := Tryz.zeroValue295
  t53 := Tryz.underlying230
  a53 := Tryz.isAgg230
  z53 := Tryz.sizeOf230
  v53 := Tryz.zeroValue230
  t75 := Tryz.underlying364
  a75 := Tryz.isAgg364
  z75 := Tryz.sizeOf364
  v75 := Tryz.zeroValue364
  t76 := Tryz.underlying365
  a76 := Tryz.isAgg365
  z76 := Tryz.sizeOf365
  v76 := Tryz.zeroValue365
  t85 := Tryz.underlying445
  a85 := Tryz.isAgg445
  z85 := Tryz.sizeOf445
  v85 := Tryz.zeroValue445
  t127 := Tryz.underlying490
  a127 := Tryz.isAgg490
  z127 := Tryz.sizeOf490
  v127 := Tryz.zeroValue490
  t143 := Tryz.underlying491
  a143 := Tryz.isAgg491
  z143 := Tryz.sizeOf491
  v143 := Tryz.zeroValue491
  t145 := Tryz.underlying493
  a145 := Tryz.isAgg493
  z145 := Tryz.sizeOf493
  v145 := Tryz.zeroValue493
  t167 := Tryz.underlying444
  a167 := Tryz.isAgg444
  z167 := Tryz.sizeOf444
  v167 := Tryz.zeroValue444
  t168 := Tryz.underlying447
  a168 := Tryz.isAgg447
  z168 := Tryz.sizeOf447
  v168 := Tryz.zeroValue447
  t171 := Tryz.underlying476
  a171 := Tryz.isAgg476
  z171 := Tryz.sizeOf476
  v171 := Tryz.zeroValue476
  t173 := Tryz.underlying478
  a173 := Tryz.isAgg478
  z173 := Tryz.sizeOf478
  v173 := Tryz.zeroValue478
  t175 := Tryz.underlying470
  a175 := Tryz.isAgg470
  z175 := Tryz.sizeOf470
  v175 := Tryz.zeroValue470
  t210 := Tryz.underlying474
  a210 := Tryz.isAgg474
  z210 := Tryz.sizeOf474
  v210 := Tryz.zeroValue474
  t212 := Tryz.underlying495
  a212 := Tryz.isAgg495
  z212 := Tryz.sizeOf495
  v212 := Tryz.zeroValue495
  t213 := Tryz.underlying496
  a213 := Tryz.isAgg496
  z213 := Tryz.sizeOf496
  t232 := Tryz.underlying44
  a232 := Tryz.isAgg44
  z232 := Tryz.sizeOf44
  v232 := Tryz.zeroValue44
  t233 := Tryz.underlying172
  a233 := Tryz.isAgg172
  z233 := Tryz.sizeOf172
  v233 := Tryz.zeroValue172
  g15 := by kernel_rfl
  g16 := by kernel_rfl
  g17 := by kernel_rfl
  g18 := by kernel_rfl
  g19 := by kernel_rfl
  t80 := Tryz.underlying501
  a80 := Tryz.isAgg501
  z80 := Tryz.sizeOf501
  v80 := Tryz.zeroValue501
  i0 := by kernel_rfl
  i2 := by kernel_rfl
  i3 := by kernel_rfl
  i4 := by kernel_rfl
  i5 := by kernel_rfl
  i9 := by kernel_rfl
  i20 := by kernel_rfl
  i21 := by kernel_rfl
  i37 := by kernel_rfl
  i46 := by kernel_rfl
  i51 := by kernel_rfl
  i53 := by kernel_rfl
  i75 := by kernel_rfl
  i76 := by kernel_rfl
  i80 := by kernel_rfl
  i85 := by kernel_rfl
  i127 := by kernel_rfl
  i143 := by kernel_rfl
  i145 := by kernel_rfl
  i167 := by kernel_rfl
  i168 := by kernel_rfl
  i171 := by kernel_rfl
  i173 := by kernel_rfl
  i175 := by kernel_rfl
  i210 := by kernel_rfl
  i212 := by kernel_rfl
  i232 := by kernel_rfl
  i233 := by kernel_rfl
  m15 := by kernel_rfl
  m16 := by kernel_rfl
  m17 := by kernel_rfl
  m18 := by kernel_rfl
  m19 := by kernel_rfl
  c0 := by kernel_rfl
  c2 := by kernel_rfl
  c3 := by kernel_rfl
  c4 := by kernel_rfl
  c5 := by kernel_rfl
  c9 := by kernel_rfl
  c20 := by kernel_rfl
  c21 := by kernel_rfl
  c37 := by kernel_rfl
  c46 := by kernel_rfl
  c51 := by kernel_rfl
  c53 := by kernel_rfl
  c75 := by kernel_rfl
  c76 := by kernel_rfl
  c80 := by kernel_rfl
  c85 := by kernel_rfl
  c127 := by kernel_rfl
  c143 := by kernel_rfl
  c145 := by kernel_rfl
  c167 := by kernel_rfl
  c168 := by kernel_rfl
  c171 := by kernel_rfl
  c173 := by kernel_rfl
  c175 := by kernel_rfl
  c210 := by kernel_rfl
  c212 := by kernel_rfl
  c213 := by kernel_rfl
  c232 := by kernel_rfl
  c233 := by kernel_rfl
def nmCut_ren : Go.Shelf.Ren := ⟨fun | 103 => 229 | 210 => 288 | 206 => 330 | n => n, fun | 9 => 9 | 4 => 4 | 24 => 361 | 3 => 3 | n => n, fun | n => n⟩
theorem nmCut : Go.Proofs.Lays.n103 Tryz.prog nmCut_ren where
  mixed := by kernel_rfl
  f103 := Tryz.func229.trans (congrArg some (by kernel_rfl))
  f206 := Tryz.func330.trans (congrArg some (by kernel_rfl))
  f210 := Tryz.func288.trans (congrArg some (by kernel_rfl))
  t3 := Tryz.underlying3
  a3 := Tryz.isAgg3
  z3 := Tryz.sizeOf3
  v3 := Tryz.zeroValue3
  t4 := Tryz.underlying4
  a4 := Tryz.isAgg4
  z4 := Tryz.sizeOf4
  v4 := Tryz.zeroValue4
  t9 := Tryz.underlying9
  a9 := Tryz.isAgg9
  z9 := Tryz.sizeOf9
  v9 := Tryz.zeroValue9
  t24 := Tryz.underlying361
  a24 := Tryz.isAgg361
  z24 := Tryz.sizeOf361
  v24 := Tryz.zeroValue361
def nmIdx_ren : Go.Shelf.Ren := ⟨fun | 15 => 225 | 20 => 284 | n => n, fun | 9 => 9 | 23 => 356 | 3 => 3 | 4 => 4 | 0 => 0 | 21 => 21 | n => n, fun | n => n⟩
theorem nmIdx : Go.Proofs.LaysGw.n15 Tryz.prog nmIdx_ren where
  mixed := by kernel_rfl
  f15 := Tryz.func225.trans (congrArg some (by kernel_rfl))
  f20 := Tryz.func284.trans (congrArg some (by kernel_rfl))
  t0 := Tryz.underlying0
  a0 := Tryz.isAgg0
  z0 := Tryz.sizeOf0
  v0 := Tryz.zeroValue0
  i0 := by kernel_rfl
  t3 := Tryz.underlying3
  a3 := Tryz.isAgg3
  z3 := Tryz.sizeOf3
  v3 := Tryz.zeroValue3
  i3 := by kernel_rfl
  t4 := Tryz.underlying4
  a4 := Tryz.isAgg4
  z4 := Tryz.sizeOf4
  v4 := Tryz.zeroValue4
  i4 := by kernel_rfl
  t9 := Tryz.underlying9
  a9 := Tryz.isAgg9
  z9 := Tryz.sizeOf9
  v9 := Tryz.zeroValue9
  i9 := by kernel_rfl
  t21 := Tryz.underlying21
  a21 := Tryz.isAgg21
  z21 := Tryz.sizeOf21
  v21 := Tryz.zeroValue21
  i21 := by kernel_rfl
  t23 := Tryz.underlying356
  a23 := Tryz.isAgg356
  z23 := Tryz.sizeOf356
  v23 := Tryz.zeroValue356
  i23 := by kernel_rfl
theorem nmSorts (m : Nat) : AnyZ.SortsIn Tryz.prog nmSorted_ren Fence.wide m :=
  ⟨fun blk off cap ss W hH hblk hsz => callsIn_wide.2 (AnyM.slices_Sort_string nmSortS blk off cap ss W hH hblk hsz),
   fun p cap W => callsIn_wide.2 (AnyM.slices_Sort_string_none nmSortS p cap W)⟩
/-- The names of files, sorted. -/
def nameL (es : FM) : List (List UInt8) := es.map fun e => e.k.data.toList
def namesE (es : FM) : List ByteArray := ((nameL es).mergeSort leB).map fun x => ⟨x.toArray⟩
theorem namesE_of {es fs : FM} (h : (nameL es).Perm (nameL fs)) : namesE es = namesE fs := by
  unfold namesE; rw [mergeSort_of_perm h]
theorem namesE_perm (es : FM) : (namesE es).Perm (es.map (·.k)) := by
  unfold namesE
  have h := (List.mergeSort_perm (nameL es) leB).map (fun x : List UInt8 => (⟨x.toArray⟩ : ByteArray))
  refine h.trans ?_
  unfold nameL
  rw [List.map_map]
  exact List.Perm.of_eq (List.map_congr_left fun e _ => by cases e with | mk k v b => cases k; simp)
theorem namesE_len (es : FM) : (namesE es).length = es.length := by rw [(namesE_perm es).length_eq, List.length_map]
def relK : Value → Option (DataW Unit × List MemPlace) := fun _ => some (.nil, [])
theorem owns_of {w : World} {r c : Nat} {es : FM} (h : w.heap[r]? = some (mapO encS BS.val es c)) (hg : GoodM es c) (hk : ∀ e ∈ es, e.k.size ≤ maxLen) (hn : es.length ≤ 1000000) :
    ∃ D0 : DataW Unit, w.ownsMap Tryz.prog 9 relK r es.length D0 ∧ (strKeys D0).Perm (nameL es) ∧ Maps.size D0 = es.length := by
  have hkey : ∀ e ∈ es, keyOf Tryz.prog 9 (encS e.k) = some (.string e.k.data.toList) := fun e he => by
    simp only [keyOf, Tryz.underlying9, mapKey, encS]
    rw [if_pos (hk e he)]
  have hrd : ∀ e ∈ es, Go.WideElems.rd Tryz.prog 9 relK (entV encS BS.val e) = some (.string e.k.data.toList, .nil) := fun e he => by
    simp only [Go.WideElems.rd, entV, hkey e he, relK, Option.bind_some, Option.map_some]
  have hl : (es.map (entV encS BS.val)).map (Go.WideElems.rg Tryz.prog 9 relK) = es.map fun e => ((.string e.k.data.toList, .nil) : Lit × DataW Unit) := by
    rw [List.map_map]
    exact List.map_congr_left fun e he => by simp only [Function.comp, Go.WideElems.rg, hrd e he, Option.getD_some]
  refine ⟨_, ⟨_, c, h, ⟨by simp only [List.size_toArray, List.length_map]; unfold maxLen; omega, ⟨fun x hx => ?_, ?_, ?_⟩, fun x hx => ?_⟩, by simp, rfl⟩, ?_, ?_⟩
  · obtain ⟨e, he, rfl⟩ := List.mem_map.1 (by simpa using hx)
    exact hg.lt e he
  · have hb2 := hg.born
    simp only [List.map_map]
    have : (es.map ((fun x : MapEntry => x.born) ∘ entV encS BS.val)) = es.map (·.b) := rfl
    rw [this]; exact hb2
  · have hk2 := hg.keys
    simp only [List.map_map]
    have : (es.map ((fun x : MapEntry => x.key) ∘ entV encS BS.val)) = (es.map (·.k)).map encS := by rw [List.map_map]; rfl
    rw [this]
    exact List.Pairwise.map _ (fun a b hab h => hab (by simpa [encS] using h)) hk2
  · obtain ⟨e, he, rfl⟩ := List.mem_map.1 (by simpa using hx)
    exact ⟨_, hrd e he⟩
  · have hp := Go.WideShapes.sorted_perm ((es.map (entV encS BS.val)).map (Go.WideElems.rg Tryz.prog 9 relK))
    have h2 := hp.map (fun p : Lit × DataW Unit => strOf p.1)
    rw [hl, List.map_map] at h2
    simp only [strKeys]
    rw [hl]
    exact h2
  · simp only [Maps.size]
    rw [(Go.WideShapes.sorted_perm _).length_eq]; simp
theorem keys_c {w0 : World} {H : List SA} {r : Nat} : CT Tryz.prog w0 H 228 [.map (some r)] (α := Nat) (fun b => .func (.func 287) #[] #[.pointer (some ⟨b, 0, none⟩)]) (fun b => blk b (.cells #[.map (some r)] 103 (0, 0)) :: H) := fun w hw => by
  refine (callsIn_wide.1 (AnyZ.keys_in nmKeys Fence.wide 5 trivial rfl (some r) w)).mono ?_
  rintro e w' ⟨rfl, rfl⟩
  exact ⟨w.heap.size, rfl, hw.alloc _⟩
set_option maxHeartbeats 1000000 in
theorem sorted_c {w0 : World} {H : List SA} {r b c : Nat} {es : FM} [hm : Mem w0 H r (mapO encS BS.val es c)] [hb : Mem w0 H b (.cells #[.map (some r)] 103 (0, 0))] (hg : GoodM es c) (hk : ∀ e ∈ es, e.k.size ≤ maxLen) (hn : es.length ≤ 1000000) :
    CT Tryz.prog w0 H 227 [.func (.func 287) #[] #[.pointer (some ⟨b, 0, none⟩)]] (α := AC) (fun y => .slice y.a (namesE es).length y.c) (fun y => row (.slice y.a (namesE es).length y.c) 9 1 ((namesE es).map encS) :: H) := fun w hw => by
  obtain ⟨D0, hown, hperm, hsz⟩ := owns_of (hm.get w hw) hg hk hn
  have hbw := hb.get w hw
  have hbl : b < w.heap.size := (Array.getElem?_eq_some_iff.1 hbw).1
  have hcell : w.cell? ⟨b, 0, none⟩ = some (.map (some r)) := by simp [World.cell?, hbw]
  have hseq : SeqGives Fence.wide 2 Tryz.prog 287 #[.pointer (some ⟨b, 0, none⟩)] encStr (fun ss => ss.Perm (strKeys D0)) (Maps.size D0) w :=
    AnyZ.keys_gives (ρ := nmKeys_ren) { nmKeys with } Fence.wide _ trivial rfl (by omega) b r es.length D0 w hbl hcell hown
  refine (callsIn_wide.1 (AnyZ.sorted_in nmSorted Fence.wide 5 trivial trivial trivial trivial rfl (by omega) (nmSorts _) (enters_of Tryz.func286 (by kernel_rfl) rfl) 287 #[.pointer (some ⟨b, 0, none⟩)] trivial (enters_of Tryz.func287 (by kernel_rfl) rfl) _ _ (by rw [hsz]; unfold maxLen; omega) (by rw [hsz]; omega) w hseq)).mono ?_
  rintro e w' ⟨v, ss, rfl, hS, hrow, hnil, hbe⟩
  have hss : ss.mergeSort leB = (nameL es).mergeSort leB := mergeSort_of_perm (hS.trans hperm)
  have hnl : ss.length = (namesE es).length := by rw [(hS.trans hperm).length_eq, namesE_len]; simp [nameL]
  have hxs : (ss.mergeSort leB).map encStr = (namesE es).map encS := by
    rw [hss, namesE, List.map_map]; rfl
  obtain ⟨h1, h2⟩ := hrow
  replace h2 : (v = .slice none 0 0 ∧ ss.length = 0) ∨ ∃ g cap cur, v = .slice (some ⟨g, 0, none⟩) ss.length cap ∧ w.heap.size ≤ g ∧ w'.heap[g]? = some (.cells cur 9 (0, 0)) ∧ ss.length ≤ cap ∧ cap ≤ maxLen ∧ cur.size = cap * 1 ∧ cur.toList.take (ss.length * 1) = (ss.mergeSort leB).map encStr := h2
  rw [hxs] at h2
  rcases h2 with ⟨rfl, h0⟩ | ⟨g, cap, cur, rfl, hge, hgc, q1, q2, q3, q4⟩
  · refine ⟨⟨none, 0⟩, by rw [← hnl, h0], hw.fresh hbe.os hbe.tape hbe.output hbe.size hbe.block ?_ (by simp [row, rowFp]) (by simp [row, rowFp])⟩
    exact ⟨none, 0, 0, by rw [← hnl, h0], by rw [List.length_map, ← hnl, h0], Nat.le_refl _, by unfold maxLen; omega, fun _ => rfl, fun h => absurd rfl h⟩
  · have hgl : g < w'.heap.size := (Array.getElem?_eq_some_iff.1 hgc).1
    refine ⟨⟨some ⟨g, 0, none⟩, cap⟩, by rw [hnl], hw.fresh hbe.os hbe.tape hbe.output hbe.size hbe.block ?_ ?_ ?_⟩
    · exact ⟨some ⟨g, 0, none⟩, (namesE es).length, cap, rfl, by simp, by omega, q2, (fun h => by cases h), fun _ => ⟨g, cur, rfl, hgc, q3, by rw [← hnl]; exact q4⟩⟩
    · by_cases h0 : cap = 0 <;> simp [row, rowFp, h0]
    · intro b' hb'
      by_cases h0 : cap = 0
      · simp [row, rowFp, h0] at hb'
      · obtain rfl : b' = g := by simpa [row, rowFp, h0] using hb'
        exact ⟨hge, hgl⟩
def fineF (r : Nat) : Bool := decide (r < 97) || decide (122 < r)
def fineB (s : ByteArray) : Bool := decide (1 ≤ s.size) && (decide (s.size ≤ 8) && decide (Lib.idxFunc fineF true s < 0))
theorem fineP (w : World) : PredAt Tryz.prog 226 #[] Go.Proofs.encR fineF w := fun W r _ => by
  unfold FnGives fineF
  by_cases h1 : r < 97 <;> by_cases h2 : 122 < r
  all_goals
    have z1 : (r : Int) < 97 ↔ r < 97 := by omega
    have z2 : (122 : Int) < (r : Int) ↔ 122 < r := by omega
    go_enter Tryz.func226, Tryz.ntmps226
    go_wp2
    all_goals first | (exfalso; omega) | (go_ret; exact ⟨by simp [h1, h2], 0, rfl⟩)
theorem St.later {w0 w w' : World} {H : List SA} (hw : St w0 H w) (hb : Below w.heap.size w w') : St w0 H w' :=
  (hw.fresh (x' := pu True) hb.os hb.tape hb.output hb.size hb.block trivial (by simp [pu]) (by simp [pu])).tail
theorem idx_c {w0 : World} {H : List SA} {s : ByteArray} : CT Tryz.prog w0 H 225 [.string s, .func (.func 226) #[] #[]] (α := Unit) (fun _ => .int .i64 (Lib.idxFunc fineF true s)) (fun _ => H) := fun w hw => by
  refine (Any.strings_IndexFunc nmIdx 226 #[] (enters_of Tryz.func226 (by kernel_rfl) rfl) fineF s w (fineP w)).mono ?_
  rintro e w' ⟨rfl, hb⟩
  exact ⟨(), rfl, St.later hw hb⟩
theorem itoa_c {w0 : World} {H : List SA} {i : Nat} (hi : i < 100) : CT Tryz.prog w0 H 231 [.int .i64 (i : Int)] (α := Unit) (fun _ => .string ⟨(Lib.decDigits i).toArray⟩) (fun _ => H) := fun w hw => by
  refine (Any.strconv_Itoa_small nmItoa i hi w).mono ?_
  rintro e w' ⟨rfl, rfl⟩
  exact ⟨(), rfl, hw⟩
theorem atoi_c {w0 : World} {H : List SA} {s : ByteArray} (hs : s.size ≤ 1000000) {v : Int} (h : Lib.atoiAll s.data.toList = .ok v) : CT Tryz.prog w0 H 230 [.string s] (α := Unit) (fun _ => .tuple #[.int .i64 v, .nilIface]) (fun _ => H) := fun w hw => by
  refine (Any.strconv_Atoi_ok nmAtoi s (by omega) v h w).mono ?_
  rintro e w' ⟨rfl, rfl | ⟨t, rfl⟩⟩
  · exact ⟨(), rfl, hw⟩
  · exact ⟨(), rfl, St.later hw (Lib.bytesWorld_below w _ t)⟩
theorem cut_c {w0 : World} {H : List SA} {s p : ByteArray} : CT Tryz.prog w0 H 229 [.string s, .string p] (α := Unit) (fun _ => .tuple #[.string ⟨(Lib.trimPrefix s.data.toList p.data.toList).toArray⟩, .bool (Lib.hasPrefix s.data.toList p.data.toList)]) (fun _ => H) := fun w hw => by
  refine (Any.strings_CutPrefix nmCut s p w).mono ?_
  rintro e w' ⟨rfl, rfl⟩
  exact ⟨(), rfl, hw⟩
theorem sort0_c {w0 : World} {H : List SA} {a : Option Addr} {c : Nat} : CT Tryz.prog w0 H 160 [.slice a 0 c] (α := Unit) (fun _ => .tuple #[]) (fun _ => H) := fun w hw => by
  refine (AnyM.slices_Sort_int_none nmSortI a c w).mono ?_
  rintro e w' ⟨rfl, rfl⟩
  exact ⟨(), rfl, hw⟩
attribute [local irreducible] namesE
set_option maxHeartbeats 1000000 in
theorem dnames_c {w0 : World} {H : List SA} {p : Nat} {s : DS} {N M : Nat} (hok : s.Ok N M) (hN : N ≤ 1000000) (hkz : ∀ e ∈ s.e2, e.k.size ≤ maxLen) :
    CT Tryz.prog w0 (DS.H p s H) 158 [.pointer (some ⟨p, 0, none⟩)] (α := AC) (fun y => .slice y.a (namesE s.e2).length y.c) (fun y => row (.slice y.a (namesE s.e2).length y.c) 9 1 ((namesE s.e2).map encS) :: DS.H p s H) := by
  refine CT_intro Tryz.func158 rfl Tryz.ntmps158 rfl ?_
  refine T_seq ?_
  refine T_region ?_
  refine TL_q (Qt_assign (.slice _ _ _) rfl) rfl ?_
  refine TL_nil ?_
  refine X_then ?_
  refine T_seq ?_
  refine T_seq ?_
  refine T_region ?_
  refine TL_q (Qt_move (.pointer _) rfl) rfl ?_
  refine TL_q (Qt_ptr_nil rfl rfl Tryz.underlying63) rfl ?_
  refine TL_nil ?_
  refine X_then ?_
  refine T_cond rfl (fun h4 => ?_) (fun h4 => ?_)
  ·
    have p4 := h4
    try simp only [decide_eq_true_eq, decide_eq_false_iff_not, Bool.not_eq_true', Bool.not_eq_false', Option.isNone_iff_eq_none, ne_eq, Decidable.not_not, Int.not_lt, Int.not_le] at p4
    cases h4
  ·
    have p4 := h4
    try simp only [decide_eq_true_eq, decide_eq_false_iff_not, Bool.not_eq_true', Bool.not_eq_false', Option.isNone_iff_eq_none, ne_eq, Decidable.not_not, Int.not_lt, Int.not_le] at p4
    refine T_skip ?_
    refine X_then ?_
    refine T_seq ?_
    refine T_region ?_
    refine TL_q (Qt_move (.pointer _) rfl) rfl ?_
    refine TL_q (Qt_nilCheck rfl) rfl ?_
    refine TL_q (Qt_fieldAddr 2 rfl rfl) rfl ?_
    refine TL_q (Qt_load1 rfl) rfl ?_
    refine TL_e rfl (Ef_call (keys_c (r := s.r2)) rfl (fun x9 => ?_))
    refine TL_e rfl (Ef_call (sorted_c (r := s.r2) (b := x9) (es := s.e2) (c := s.c2) hok.good2 hkz (by have := hok.n2; omega)) rfl (fun x10 => ?_))
    refine TL_q (Qt_assign (.slice _ _ _) rfl) rfl ?_
    refine TL_nil ?_
    refine X_then ?_
    refine T_ret ?_
    exact X_ret x10 [_] Tryz.results158 ⟨rfl, trivial⟩ rfl (Subs.st inferInstance)
end Go.Proofs.YtldnfbghjnhklaaGreatDoor

/- The library's contracts at this program: names, sorted; numerals; prefixes; runes. -/
import Derived.Test.YtgeknnclmhfjlaaGreatDoorSgP
import Derived.Shelf.SlIter.Nil
import Derived.Shelf.SortM.Plain
import Derived.Shelf.SortM.SortNone
import Derived.Shelf.Strconv.Itoa3
import Derived.Shelf.Strconv.AtoiAll
import Derived.Shelf.Small.Wraps
import Derived.Shelf.GgClosure.StringsIndexFuncTop
import Derived.Test.YtgeknnclmhfjlaaGreatDoorDkP
namespace Go.Proofs.YtgeknnclmhfjlaaGreatDoor
open Go.RowKit Go.Sx
set_option maxRecDepth 100000
set_option linter.unusedSimpArgs false
set_option linter.unusedVariables false
open Go.Maps Go.Sort Go.Shelf
def nmKeys_ren : Go.Shelf.Ren := ⟨fun | 7 => 102 | 10 => 147 | n => n, fun | 23 => 70 | 26 => 9 | 3 => 41 | 28 => 189 | 0 => 0 | 27 => 188 | 33 => 128 | 4 => 4 | n => n, fun | n => n⟩
theorem nmKeys : Go.Proofs.SlLaysZ.n7 Tryz.prog nmKeys_ren where
 mixed := by kernel_rfl
 f7 := ⟨Tryz.f102.name, by decide, Tryz.func102.trans (congrArg some (by kernel_rfl))⟩
 f10 := ⟨Tryz.f147.name, by decide, Tryz.func147.trans (congrArg some (by kernel_rfl))⟩
 t0 := Tryz.underlying0
 a0 := Tryz.isAgg0
 z0 := Tryz.sizeOf0
 v0 := Tryz.zeroValue0
 t4 := Tryz.underlying4
 a4 := Tryz.isAgg4
 z4 := Tryz.sizeOf4
 v4 := Tryz.zeroValue4
 t23 := Tryz.underlying70
 a23 := Tryz.isAgg70
 z23 := Tryz.sizeOf70
 v23 := Tryz.zeroValue70
 t26 := Tryz.underlying9
 a26 := Tryz.isAgg9
 z26 := Tryz.sizeOf9
 v26 := Tryz.zeroValue9
 t27 := Tryz.underlying188
 a27 := Tryz.isAgg188
 z27 := Tryz.sizeOf188
 v27 := Tryz.zeroValue188
 t28 := Tryz.underlying189
 a28 := Tryz.isAgg189
 z28 := Tryz.sizeOf189
 v28 := Tryz.zeroValue189
 t33 := Tryz.underlying128
 a33 := Tryz.isAgg128
 z33 := Tryz.sizeOf128
 v33 := Tryz.zeroValue128
def nmSorted_ren : Go.Shelf.Ren := ⟨fun | 6 => 101 | 8 => 145 | 9 => 146 | 11 => 178 | 13 => 107 | 12 => 179 | 23 => 161 | 24 => 162 | 14 => 207 | 15 => 208 | 16 => 209 | 17 => 210 | 18 => 211 | 19 => 212 | 20 => 213 | 21 => 214 | 22 => 215 | 25 => 227 | 26 => 188 | 27 => 189 | 28 => 228 | 29 => 229 | 30 => 230 | 31 => 238 | n => n, fun | 26 => 9 | 28 => 189 | 24 => 132 | 0 => 0 | 3 => 3 | 37 => 199 | 48 => 221 | 50 => 23 | 4 => 4 | 40 => 244 | 39 => 243 | 45 => 248 | 5 => 5 | 9 => 9 | 51 => 281 | 55 => 171 | 57 => 311 | 58 => 47 | 33 => 128 | n => n, fun | n => n⟩
theorem nmSorted : Go.Proofs.SlLaysZ.n6 Tryz.prog nmSorted_ren where
 mixed := by kernel_rfl
 f6 := ⟨Tryz.f101.name, by decide, Tryz.func101.trans (congrArg some (by kernel_rfl))⟩
 f8 := ⟨Tryz.f145.name, by decide, Tryz.func145.trans (congrArg some (by kernel_rfl))⟩
 f11 := ⟨Tryz.f178.name, by decide, Tryz.func178.trans (congrArg some (by kernel_rfl))⟩
 t0 := Tryz.underlying0
 a0 := Tryz.isAgg0
 z0 := Tryz.sizeOf0
 v0 := Tryz.zeroValue0
 t24 := Tryz.underlying132
 a24 := Tryz.isAgg132
 z24 := Tryz.sizeOf132
 v24 := Tryz.zeroValue132
 t26 := Tryz.underlying9
 a26 := Tryz.isAgg9
 z26 := Tryz.sizeOf9
 v26 := Tryz.zeroValue9
 t28 := Tryz.underlying189
 a28 := Tryz.isAgg189
 z28 := Tryz.sizeOf189
 v28 := Tryz.zeroValue189
 i26 := by kernel_rfl
def nmSortS_ren : Go.Shelf.Ren := ⟨fun | 6 => 146 | 8 => 107 | 9 => 179 | 19 => 161 | 20 => 162 | 21 => 207 | 22 => 208 | 23 => 209 | 24 => 210 | 25 => 211 | 26 => 212 | 27 => 213 | 28 => 214 | 29 => 215 | 36 => 227 | 31 => 188 | 32 => 189 | 37 => 228 | 38 => 229 | 39 => 230 | 41 => 238 | n => n, fun | 27 => 132 | 29 => 9 | 3 => 3 | 32 => 199 | 26 => 132 | 0 => 0 | 44 => 221 | 46 => 23 | 4 => 4 | 36 => 244 | 35 => 243 | 41 => 248 | 5 => 5 | 9 => 9 | 53 => 281 | 57 => 171 | 63 => 311 | 64 => 47 | n => n, fun | n => n⟩
theorem nmSortS : Go.Proofs.SlLaysM.n6 Tryz.prog nmSortS_ren where
 mixed := by kernel_rfl
 f6 := ⟨Tryz.f146.name, by decide, Tryz.func146.trans (congrArg some (by kernel_rfl))⟩
 f8 := Tryz.func107.trans (congrArg some (by kernel_rfl))
 f9 := ⟨Tryz.f179.name, by decide, Tryz.func179.trans (congrArg some (by kernel_rfl))⟩
 f19 := Tryz.func161.trans (congrArg some (by kernel_rfl))
 f20 := Tryz.func162.trans (congrArg some (by kernel_rfl))
 f21 := ⟨Tryz.f207.name, by decide, Tryz.func207.trans (congrArg some (by kernel_rfl))⟩
 f22 := ⟨Tryz.f208.name, by decide, Tryz.func208.trans (congrArg some (by kernel_rfl))⟩
 f23 := ⟨Tryz.f209.name, by decide, Tryz.func209.trans (congrArg some (by kernel_rfl))⟩
 f24 := ⟨Tryz.f210.name, by decide, Tryz.func210.trans (congrArg some (by kernel_rfl))⟩
 f25 := ⟨Tryz.f211.name, by decide, Tryz.func211.trans (congrArg some (by kernel_rfl))⟩
 f26 := ⟨Tryz.f212.name, by decide, Tryz.func212.trans (congrArg some (by kernel_rfl))⟩
 f27 := ⟨Tryz.f213.name, by decide, Tryz.func213.trans (congrArg some (by kernel_rfl))⟩
 f28 := ⟨Tryz.f214.name, by decide, Tryz.func214.trans (congrArg some (by kernel_rfl))⟩
 f29 := ⟨Tryz.f215.name, by decide, Tryz.func215.trans (congrArg some (by kernel_rfl))⟩
 f31 := Tryz.func188.trans (congrArg some (by kernel_rfl))
 f32 := Tryz.func189.trans (congrArg some (by kernel_rfl))
 f36 := ⟨Tryz.f227.name, by decide, Tryz.func227.trans (congrArg some (by kernel_rfl))⟩
 f37 := ⟨Tryz.f228.name, by decide, Tryz.func228.trans (congrArg some (by kernel_rfl))⟩
 f38 := ⟨Tryz.f229.name, by decide, Tryz.func229.trans (congrArg some (by kernel_rfl))⟩
 f39 := ⟨Tryz.f230.name, by decide, Tryz.func230.trans (congrArg some (by kernel_rfl))⟩
 f41 := ⟨Tryz.f238.name, by decide, Tryz.func238.trans (congrArg some (by kernel_rfl))⟩
 t0 := Tryz.underlying0
 a0 := Tryz.isAgg0
 z0 := Tryz.sizeOf0
 v0 := Tryz.zeroValue0
 t3 := Tryz.underlying3
 a3 := Tryz.isAgg3
 z3 := Tryz.sizeOf3
 v3 := Tryz.zeroValue3
 t4 := Tryz.underlying4
 a4 := Tryz.isAgg4
 z4 := Tryz.sizeOf4
 v4 := Tryz.zeroValue4
 t5 := Tryz.underlying5
 a5 := Tryz.isAgg5
 z5 := Tryz.sizeOf5
 v5 := Tryz.zeroValue5
 t9 := Tryz.underlying9
 a9 := Tryz.isAgg9
 z9 := Tryz.sizeOf9
 v9 := Tryz.zeroValue9
 t26 := Tryz.underlying132
 a26 := Tryz.isAgg132
 z26 := Tryz.sizeOf132
 v26 := Tryz.zeroValue132
 t27 := Tryz.underlying132
 a27 := Tryz.isAgg132
 z27 := Tryz.sizeOf132
 v27 := Tryz.zeroValue132
 t29 := Tryz.underlying9
 a29 := Tryz.isAgg9
 z29 := Tryz.sizeOf9
 v29 := Tryz.zeroValue9
 t32 := Tryz.underlying199
 a32 := Tryz.isAgg199
 z32 := Tryz.sizeOf199
 v32 := Tryz.zeroValue199
 t35 := Tryz.underlying243
 a35 := Tryz.isAgg243
 z35 := Tryz.sizeOf243
 v35 := Tryz.zeroValue243
 t36 := Tryz.underlying244
 a36 := Tryz.isAgg244
 z36 := Tryz.sizeOf244
 v36 := Tryz.zeroValue244
 t41 := Tryz.underlying248
 a41 := Tryz.isAgg248
 z41 := Tryz.sizeOf248
 v41 := Tryz.zeroValue248
 t44 := Tryz.underlying221
 a44 := Tryz.isAgg221
 z44 := Tryz.sizeOf221
 v44 := Tryz.zeroValue221
 t46 := Tryz.underlying23
 a46 := Tryz.isAgg23
 z46 := Tryz.sizeOf23
 v46 := Tryz.zeroValue23
 t53 := Tryz.underlying281
 a53 := Tryz.isAgg281
 z53 := Tryz.sizeOf281
 v53 := Tryz.zeroValue281
 t57 := Tryz.underlying171
 a57 := Tryz.isAgg171
 z57 := Tryz.sizeOf171
 v57 := Tryz.zeroValue171
 t63 := Tryz.underlying311
 a63 := Tryz.isAgg311
 z63 := Tryz.sizeOf311
 v63 := Tryz.zeroValue311
 t64 := Tryz.underlying47
 a64 := Tryz.isAgg47
 z64 := Tryz.sizeOf47
 v64 := Tryz.zeroValue47
def nmSortI_ren : Go.Shelf.Ren := ⟨fun | 5 => 63 | 8 => 107 | 7 => 106 | 19 => 161 | 20 => 162 | 10 => 152 | 11 => 153 | 12 => 154 | 13 => 155 | 14 => 156 | 15 => 157 | 16 => 158 | 17 => 159 | 18 => 160 | 30 => 187 | 31 => 188 | 32 => 189 | 33 => 190 | 34 => 191 | 35 => 192 | 40 => 223 | n => n, fun | 23 => 129 | 25 => 3 | 3 => 3 | 32 => 199 | 22 => 129 | 0 => 0 | 44 => 221 | 46 => 23 | 4 => 4 | 36 => 244 | 35 => 243 | 41 => 248 | 5 => 5 | 9 => 9 | 53 => 281 | 57 => 171 | 63 => 311 | 64 => 47 | n => n, fun | n => n⟩
theorem nmSortI : Go.Proofs.SlLaysM.n5 Tryz.prog nmSortI_ren where
 mixed := by kernel_rfl
 f5 := ⟨Tryz.f63.name, by decide, Tryz.func63.trans (congrArg some (by kernel_rfl))⟩
 f7 := ⟨Tryz.f106.name, by decide, Tryz.func106.trans (congrArg some (by kernel_rfl))⟩
 f8 := Tryz.func107.trans (congrArg some (by kernel_rfl))
 f10 := ⟨Tryz.f152.name, by decide, Tryz.func152.trans (congrArg some (by kernel_rfl))⟩
 f11 := ⟨Tryz.f153.name, by decide, Tryz.func153.trans (congrArg some (by kernel_rfl))⟩
 f12 := ⟨Tryz.f154.name, by decide, Tryz.func154.trans (congrArg some (by kernel_rfl))⟩
 f13 := ⟨Tryz.f155.name, by decide, Tryz.func155.trans (congrArg some (by kernel_rfl))⟩
 f14 := ⟨Tryz.f156.name, by decide, Tryz.func156.trans (congrArg some (by kernel_rfl))⟩
 f15 := ⟨Tryz.f157.name, by decide, Tryz.func157.trans (congrArg some (by kernel_rfl))⟩
 f16 := ⟨Tryz.f158.name, by decide, Tryz.func158.trans (congrArg some (by kernel_rfl))⟩
 f17 := ⟨Tryz.f159.name, by decide, Tryz.func159.trans (congrArg some (by kernel_rfl))⟩
 f18 := ⟨Tryz.f160.name, by decide, Tryz.func160.trans (congrArg some (by kernel_rfl))⟩
 f19 := Tryz.func161.trans (congrArg some (by kernel_rfl))
 f20 := Tryz.func162.trans (congrArg some (by kernel_rfl))
 f30 := ⟨Tryz.f187.name, by decide, Tryz.func187.trans (congrArg some (by kernel_rfl))⟩
 f31 := Tryz.func188.trans (congrArg some (by kernel_rfl))
 f32 := Tryz.func189.trans (congrArg some (by kernel_rfl))
 f33 := ⟨Tryz.f190.name, by decide, Tryz.func190.trans (congrArg some (by kernel_rfl))⟩
 f34 := ⟨Tryz.f191.name, by decide, Tryz.func191.trans (congrArg some (by kernel_rfl))⟩
 f35 := ⟨Tryz.f192.name, by decide, Tryz.func192.trans (congrArg some (by kernel_rfl))⟩
 f40 := ⟨Tryz.f223.name, by decide, Tryz.func223.trans (congrArg some (by kernel_rfl))⟩
 t0 := Tryz.underlying0
 a0 := Tryz.isAgg0
 z0 := Tryz.sizeOf0
 v0 := Tryz.zeroValue0
 t3 := Tryz.underlying3
 a3 := Tryz.isAgg3
 z3 := Tryz.sizeOf3
 v3 := Tryz.zeroValue3
 t4 := Tryz.underlying4
 a4 := Tryz.isAgg4
 z4 := Tryz.sizeOf4
 v4 := Tryz.zeroValue4
 t5 := Tryz.underlying5
 a5 := Tryz.isAgg5
 z5 := Tryz.sizeOf5
 v5 := Tryz.zeroValue5
 t9 := Tryz.underlying9
 a9 := Tryz.isAgg9
 z9 := Tryz.sizeOf9
 v9 := Tryz.zeroValue9
 t22 := Tryz.underlying129
 a22 := Tryz.isAgg129
 z22 := Tryz.sizeOf129
 v22 := Tryz.zeroValue129
 t23 := Tryz.underlying129
 a23 := Tryz.isAgg129
 z23 := Tryz.sizeOf129
 v23 := Tryz.zeroValue129
 t25 := Tryz.underlying3
 a25 := Tryz.isAgg3
 z25 := Tryz.sizeOf3
 v25 := Tryz.zeroValue3
 t32 := Tryz.underlying199
 a32 := Tryz.isAgg199
 z32 := Tryz.sizeOf199
 v32 := Tryz.zeroValue199
 t35 := Tryz.underlying243
 a35 := Tryz.isAgg243
 z35 := Tryz.sizeOf243
 v35 := Tryz.zeroValue243
 t36 := Tryz.underlying244
 a36 := Tryz.isAgg244
 z36 := Tryz.sizeOf244
 v36 := Tryz.zeroValue244
 t41 := Tryz.underlying248
 a41 := Tryz.isAgg248
 z41 := Tryz.sizeOf248
 v41 := Tryz.zeroValue248
 t44 := Tryz.underlying221
 a44 := Tryz.isAgg221
 z44 := Tryz.sizeOf221
 v44 := Tryz.zeroValue221
 t46 := Tryz.underlying23
 a46 := Tryz.isAgg23
 z46 := Tryz.sizeOf23
 v46 := Tryz.zeroValue23
 t53 := Tryz.underlying281
 a53 := Tryz.isAgg281
 z53 := Tryz.sizeOf281
 v53 := Tryz.zeroValue281
 t57 := Tryz.underlying171
 a57 := Tryz.isAgg171
 z57 := Tryz.sizeOf171
 v57 := Tryz.zeroValue171
 t63 := Tryz.underlying311
 a63 := Tryz.isAgg311
 z63 := Tryz.sizeOf311
 v63 := Tryz.zeroValue311
 t64 := Tryz.underlying47
 a64 := Tryz.isAgg47
 z64 := Tryz.sizeOf47
 v64 := Tryz.zeroValue47
def nmItoa_ren : Go.Shelf.Ren := ⟨fun | 171 => 105 | 243 => 151 | 246 => 186 | 283 => 219 | 284 => 220 | 285 => 221 | 286 => 222 | 129 => 162 | 317 => 233 | 318 => 234 | 319 => 235 | 320 => 236 | 337 => 239 | 338 => 240 | n => n, fun | 3 => 3 | 9 => 9 | 2 => 2 | 4 => 4 | 171 => 307 | 0 => 0 | 53 => 23 | 37 => 41 | 5 => 5 | 173 => 309 | 212 => 326 | 51 => 221 | 20 => 20 | 213 => 327 | 46 => 199 | 232 => 39 | 233 => 330 | n => n, fun | 17 => 2 | 18 => 3 | 19 => 4 | n => n⟩
theorem nmItoa : Go.Proofs.Lays.n171 Tryz.prog nmItoa_ren where
 mixed := by kernel_rfl
 f129 := Tryz.func162.trans (congrArg some (by kernel_rfl))
 f171 := Tryz.func105.trans (congrArg some (by kernel_rfl))
 f243 := Tryz.func151.trans (congrArg some (by kernel_rfl))
 f246 := Tryz.func186.trans (congrArg some (by kernel_rfl))
 f283 := Tryz.func219.trans (congrArg some (by kernel_rfl))
 f284 := Tryz.func220.trans (congrArg some (by kernel_rfl))
 f285 := Tryz.func221.trans (congrArg some (by kernel_rfl))
 f286 := Tryz.func222.trans (congrArg some (by kernel_rfl))
 f317 := Tryz.func233.trans (congrArg some (by kernel_rfl))
 f318 := Tryz.func234.trans (congrArg some (by kernel_rfl))
 f319 := Tryz.func235.trans (congrArg some (by kernel_rfl))
 f320 := Tryz.func236.trans (congrArg some (by kernel_rfl))
 f337 := Tryz.func239.trans (congrArg some (by kernel_rfl))
 f338 := Tryz.func240.trans (congrArg some (by kernel_rfl))
 t0 := Tryz.underlying0
 a0 := Tryz.isAgg0
 z0 := Tryz.sizeOf0
 v0 := Tryz.zeroValue0
 t2 := Tryz.underlying2
 a2 := Tryz.isAgg2
 z2 := Tryz.sizeOf2
 v2 := Tryz.zeroValue2
 t3 := Tryz.underlying3
 a3 := Tryz.isAgg3
 z3 := Tryz.sizeOf3
 v3 := Tryz.zeroValue3
 t4 := Tryz.underlying4
 a4 := Tryz.isAgg4
 z4 := Tryz.sizeOf4
 v4 := Tryz.zeroValue4
 t5 := Tryz.underlying5
 a5 := Tryz.isAgg5
 z5 := Tryz.sizeOf5
 v5 := Tryz.zeroValue5
 t9 := Tryz.underlying9
 a9 := Tryz.isAgg9
 z9 := Tryz.sizeOf9
 v9 := Tryz.zeroValue9
 t20 := Tryz.underlying20
 a20 := Tryz.isAgg20
 z20 := Tryz.sizeOf20
 v20 := Tryz.zeroValue20
 t37 := Tryz.underlying41
 a37 := Tryz.isAgg41
 z37 := Tryz.sizeOf41
 v37 := Tryz.zeroValue41
 t46 := Tryz.underlying199
 a46 := Tryz.isAgg199
 z46 := Tryz.sizeOf199
 v46 := Tryz.zeroValue199
 t51 := Tryz.underlying221
 a51 := Tryz.isAgg221
 z51 := Tryz.sizeOf221
 v51 := Tryz.zeroValue221
 t53 := Tryz.underlying23
 a53 := Tryz.isAgg23
 z53 := Tryz.sizeOf23
 v53 := Tryz.zeroValue23
 t171 := Tryz.underlying307
 a171 := Tryz.isAgg307
 z171 := Tryz.sizeOf307
 v171 := Tryz.zeroValue307
 t173 := Tryz.underlying309
 a173 := Tryz.isAgg309
 z173 := Tryz.sizeOf309
 v173 := Tryz.zeroValue309
 t212 := Tryz.underlying326
 a212 := Tryz.isAgg326
 z212 := Tryz.sizeOf326
 v212 := Tryz.zeroValue326
 t213 := Tryz.underlying327
 a213 := Tryz.isAgg327
 z213 := Tryz.sizeOf327
 t232 := Tryz.underlying39
 a232 := Tryz.isAgg39
 z232 := Tryz.sizeOf39
 v232 := Tryz.zeroValue39
 t233 := Tryz.underlying330
 a233 := Tryz.isAgg330
 z233 := Tryz.sizeOf330
 v233 := Tryz.zeroValue330
 g17 := by kernel_rfl
 g18 := by kernel_rfl
 g19 := by kernel_rfl
def nmAtoi_ren : Go.Shelf.Ren := ⟨fun | 172 => 104 | 244 => 149 | 245 => 150 | 247 => 181 | 279 => 182 | 280 => 183 | 281 => 184 | 282 => 185 | 287 => 216 | 316 => 217 | 171 => 105 | 205 => 218 | 321 => 231 | 322 => 232 | 243 => 151 | 246 => 186 | 283 => 219 | 284 => 220 | 285 => 221 | 286 => 222 | 129 => 162 | 317 => 233 | 318 => 234 | 319 => 235 | 320 => 236 | 337 => 239 | 338 => 240 | n => n, fun | 9 => 9 | 3 => 3 | 75 => 194 | 76 => 195 | 4 => 4 | 5 => 5 | 167 => 274 | 37 => 41 | 0 => 0 | 85 => 275 | 2 => 2 | 168 => 277 | 53 => 23 | 175 => 301 | 46 => 199 | 210 => 305 | 127 => 320 | 145 => 323 | 143 => 321 | 21 => 21 | 171 => 307 | 173 => 309 | 212 => 326 | 51 => 221 | 20 => 20 | 213 => 327 | 232 => 39 | 233 => 330 | 80 => 331 | n => n, fun | 15 => 0 | 16 => 1 | 17 => 2 | 18 => 3 | 19 => 4 | n => n⟩
theorem nmAtoi : Go.Proofs.LaysC.n172 Tryz.prog nmAtoi_ren where
 mixed := by kernel_rfl
 f129 := Tryz.func162.trans (congrArg some (by kernel_rfl))
 f171 := Tryz.func105.trans (congrArg some (by kernel_rfl))
 f172 := Tryz.func104.trans (congrArg some (by kernel_rfl))
 f205 := Tryz.func218.trans (congrArg some (by kernel_rfl))
 f243 := Tryz.func151.trans (congrArg some (by kernel_rfl))
 f244 := Tryz.func149.trans (congrArg some (by kernel_rfl))
 f245 := Tryz.func150.trans (congrArg some (by kernel_rfl))
 f246 := Tryz.func186.trans (congrArg some (by kernel_rfl))
 f247 := Tryz.func181.trans (congrArg some (by kernel_rfl))
 f279 := Tryz.func182.trans (congrArg some (by kernel_rfl))
 f280 := Tryz.func183.trans (congrArg some (by kernel_rfl))
 f281 := Tryz.func184.trans (congrArg some (by kernel_rfl))
 f282 := Tryz.func185.trans (congrArg some (by kernel_rfl))
 f283 := Tryz.func219.trans (congrArg some (by kernel_rfl))
 f284 := Tryz.func220.trans (congrArg some (by kernel_rfl))
 f285 := Tryz.func221.trans (congrArg some (by kernel_rfl))
 f286 := Tryz.func222.trans (congrArg some (by kernel_rfl))
 f287 := Tryz.func216.trans (congrArg some (by kernel_rfl))
 f316 := Tryz.func217.trans (congrArg some (by kernel_rfl))
 f317 := Tryz.func233.trans (congrArg some (by kernel_rfl))
 f318 := Tryz.func234.trans (congrArg some (by kernel_rfl))
 f319 := Tryz.func235.trans (congrArg some (by kernel_rfl))
 f320 := Tryz.func236.trans (congrArg some (by kernel_rfl))
 f321 := Tryz.func231.trans (congrArg some (by kernel_rfl))
 f322 := Tryz.func232.trans (congrArg some (by kernel_rfl))
 f337 := Tryz.func239.trans (congrArg some (by kernel_rfl))
 f338 := Tryz.func240.trans (congrArg some (by kernel_rfl))
 t0 := Tryz.underlying0
 a0 := Tryz.isAgg0
 z0 := Tryz.sizeOf0
 v0 := Tryz.zeroValue0
 t2 := Tryz.underlying2
 a2 := Tryz.isAgg2
 z2 := Tryz.sizeOf2
 v2 := Tryz.zeroValue2
 t3 := Tryz.underlying3
 a3 := Tryz.isAgg3
 z3 := Tryz.sizeOf3
 v3 := Tryz.zeroValue3
 t4 := Tryz.underlying4
 a4 := Tryz.isAgg4
 z4 := Tryz.sizeOf4
 v4 := Tryz.zeroValue4
 t5 := Tryz.underlying5
 a5 := Tryz.isAgg5
 z5 := Tryz.sizeOf5
 v5 := Tryz.zeroValue5
 t9 := Tryz.underlying9
 a9 := Tryz.isAgg9
 z9 := Tryz.sizeOf9
 v9 := Tryz.zeroValue9
 t20 := Tryz.underlying20
 a20 := Tryz.isAgg20
 z20 := Tryz.sizeOf20
 v20 := Tryz.zeroValue20
 t21 := Tryz.underlying21
 a21 := Tryz.isAgg21
 z21 := Tryz.sizeOf21
 v21 := Tryz.zeroValue21
 t37 := Tryz.underlying41
 a37 := Tryz.isAgg41
 z37 := Tryz.sizeOf41
 v37 := Tryz.zeroValue41
 t46 := Tryz.underlying199
 a46 := Tryz.isAgg199
 z46 := Tryz.sizeOf199
 v46 := Tryz.zeroValue199
 t51 := Tryz.underlying221
 a51 := Tryz.isAgg221
 z51 := Tryz.sizeOf221
 v51 := Tryz.zeroValue221
 t53 := Tryz.underlying23
 a53 := Tryz.isAgg23
 z53 := Tryz.sizeOf23
 v53 := Tryz.zeroValue23
 t75 := Tryz.underlying194
 a75 := Tryz.isAgg194
 z75 := Tryz.sizeOf194
 v75 := Tryz.zeroValue194
 t76 := Tryz.underlying195
 a76 := Tryz.isAgg195
 z76 := Tryz.sizeOf195
 v76 := Tryz.zeroValue195
 t85 := Tryz.underlying275
 a85 := Tryz.isAgg275
 z85 := Tryz.sizeOf275
 v85 := Tryz.zeroValue275
 t127 := Tryz.underlying320
 a127 := Tryz.isAgg320
 z127 := Tryz.sizeOf320
 v127 := Tryz.zeroValue320
 t143 := Tryz.underlying321
 a143 := Tryz.isAgg321
 z143 := Tryz.sizeOf321
 v143 := Tryz.zeroValue321
 t145 := Tryz.underlying323
 a145 := Tryz.isAgg323
 z145 := Tryz.sizeOf323
 v145 := Tryz.zeroValue323
 t167 := Tryz.underlying274
 a167 := Tryz.isAgg274
 z167 := Tryz.sizeOf274
 v167 := Tryz.zeroValue274
 t168 := Tryz.underlying277
 a168 := Tryz.isAgg277
 z168 := Tryz.sizeOf277
 v168 := Tryz.zeroValue277
 t171 := Tryz.underlying307
 a171 := Tryz.isAgg307
 z171 := Tryz.sizeOf307
 v171 := Tryz.zeroValue307
 t173 := Tryz.underlying309
 a173 := Tryz.isAgg309
 z173 := Tryz.sizeOf309
 v173 := Tryz.zeroValue309
 t175 := Tryz.underlying301
 a175 := Tryz.isAgg301
 z175 := Tryz.sizeOf301
 v175 := Tryz.zeroValue301
 t210 := Tryz.underlying305
 a210 := Tryz.isAgg305
 z210 := Tryz.sizeOf305
 v210 := Tryz.zeroValue305
 t212 := Tryz.underlying326
 a212 := Tryz.isAgg326
 z212 := Tryz.sizeOf326
 v212 := Tryz.zeroValue326
 t213 := Tryz.underlying327
 a213 := Tryz.isAgg327
 z213 := Tryz.sizeOf327
 t232 := Tryz.underlying39
 a232 := Tryz.isAgg39
 z232 := Tryz.sizeOf39
 v232 := Tryz.zeroValue39
 t233 := Tryz.underlying330
 a233 := Tryz.isAgg330
 z233 := Tryz.sizeOf330
 v233 := Tryz.zeroValue330
 g15 := by kernel_rfl
 g16 := by kernel_rfl
 g17 := by kernel_rfl
 g18 := by kernel_rfl
 g19 := by kernel_rfl
 t80 := Tryz.underlying331
 a80 := Tryz.isAgg331
 z80 := Tryz.sizeOf331
 v80 := Tryz.zeroValue331
 i0 := by kernel_rfl
 i2 := by kernel_rfl
 i3 := by kernel_rfl
 i4 := by kernel_rfl
 i5 := by kernel_rfl
 i9 := by kernel_rfl
 i20 := by kernel_rfl
 i21 := by kernel_rfl
 i37 := by kernel_rfl
 i46 := by kernel_rfl
 i51 := by kernel_rfl
 i53 := by kernel_rfl
 i75 := by kernel_rfl
 i76 := by kernel_rfl
 i80 := by kernel_rfl
 i85 := by kernel_rfl
 i127 := by kernel_rfl
 i143 := by kernel_rfl
 i145 := by kernel_rfl
 i167 := by kernel_rfl
 i168 := by kernel_rfl
 i171 := by kernel_rfl
 i173 := by kernel_rfl
 i175 := by kernel_rfl
 i210 := by kernel_rfl
 i212 := by kernel_rfl
 i232 := by kernel_rfl
 i233 := by kernel_rfl
 m15 := by kernel_rfl
 m16 := by kernel_rfl
 m17 := by kernel_rfl
 m18 := by kernel_rfl
 m19 := by kernel_rfl
 c0 := by kernel_rfl
 c2 := by kernel_rfl
 c3 := by kernel_rfl
 c4 := by kernel_rfl
 c5 := by kernel_rfl
 c9 := by kernel_rfl
 c20 := by kernel_rfl
 c21 := by kernel_rfl
 c37 := by kernel_rfl
 c46 := by kernel_rfl
 c51 := by kernel_rfl
 c53 := by kernel_rfl
 c75 := by kernel_rfl
 c76 := by kernel_rfl
 c80 := by kernel_rfl
 c85 := by kernel_rfl
 c127 := by kernel_rfl
 c143 := by kernel_rfl
 c145 := by kernel_rfl
 c167 := by kernel_rfl
 c168 := by kernel_rfl
 c171 := by kernel_rfl
 c173 := by kernel_rfl
 c175 := by kernel_rfl
 c210 := by kernel_rfl
 c212 := by kernel_rfl
 c213 := by kernel_rfl
 c232 := by kernel_rfl
 c233 := by kernel_rfl
def nmCut_ren : Go.Shelf.Ren := ⟨fun | 103 => 103 | 210 => 148 | 206 => 180 | n => n, fun | 9 => 9 | 4 => 4 | 24 => 191 | 3 => 3 | n => n, fun | n => n⟩
theorem nmCut : Go.Proofs.Lays.n103 Tryz.prog nmCut_ren where
 mixed := by kernel_rfl
 f103 := Tryz.func103.trans (congrArg some (by kernel_rfl))
 f206 := Tryz.func180.trans (congrArg some (by kernel_rfl))
 f210 := Tryz.func148.trans (congrArg some (by kernel_rfl))
 t3 := Tryz.underlying3
 a3 := Tryz.isAgg3
 z3 := Tryz.sizeOf3
 v3 := Tryz.zeroValue3
 t4 := Tryz.underlying4
 a4 := Tryz.isAgg4
 z4 := Tryz.sizeOf4
 v4 := Tryz.zeroValue4
 t9 := Tryz.underlying9
 a9 := Tryz.isAgg9
 z9 := Tryz.sizeOf9
 v9 := Tryz.zeroValue9
 t24 := Tryz.underlying191
 a24 := Tryz.isAgg191
 z24 := Tryz.sizeOf191
 v24 := Tryz.zeroValue191
def nmIdx_ren : Go.Shelf.Ren := ⟨fun | 15 => 99 | 20 => 144 | n => n, fun | 9 => 9 | 23 => 186 | 3 => 3 | 4 => 4 | 0 => 0 | 21 => 21 | n => n, fun | n => n⟩
theorem nmIdx : Go.Proofs.LaysGw.n15 Tryz.prog nmIdx_ren where
 mixed := by kernel_rfl
 f15 := Tryz.func99.trans (congrArg some (by kernel_rfl))
 f20 := Tryz.func144.trans (congrArg some (by kernel_rfl))
 t0 := Tryz.underlying0
 a0 := Tryz.isAgg0
 z0 := Tryz.sizeOf0
 v0 := Tryz.zeroValue0
 i0 := by kernel_rfl
 t3 := Tryz.underlying3
 a3 := Tryz.isAgg3
 z3 := Tryz.sizeOf3
 v3 := Tryz.zeroValue3
 i3 := by kernel_rfl
 t4 := Tryz.underlying4
 a4 := Tryz.isAgg4
 z4 := Tryz.sizeOf4
 v4 := Tryz.zeroValue4
 i4 := by kernel_rfl
 t9 := Tryz.underlying9
 a9 := Tryz.isAgg9
 z9 := Tryz.sizeOf9
 v9 := Tryz.zeroValue9
 i9 := by kernel_rfl
 t21 := Tryz.underlying21
 a21 := Tryz.isAgg21
 z21 := Tryz.sizeOf21
 v21 := Tryz.zeroValue21
 i21 := by kernel_rfl
 t23 := Tryz.underlying186
 a23 := Tryz.isAgg186
 z23 := Tryz.sizeOf186
 v23 := Tryz.zeroValue186
 i23 := by kernel_rfl
theorem nmSorts (m : Nat) : AnyZ.SortsIn Tryz.prog nmSorted_ren Fence.wide m :=
 ⟨fun blk off cap ss W hH hblk hsz => callsIn_wide.2 (AnyM.slices_Sort_string nmSortS blk off cap ss W hH hblk hsz),
  fun p cap W => callsIn_wide.2 (AnyM.slices_Sort_string_none nmSortS p cap W)⟩
/-- The names of files, sorted. -/
def nameL (es : FM) : List (List UInt8) := es.map fun e => e.k.data.toList
def namesE (es : FM) : List ByteArray := ((nameL es).mergeSort leB).map fun x => ⟨x.toArray⟩
theorem namesE_perm (es : FM) : (namesE es).Perm (es.map (·.k)) := by
 unfold namesE
 have h := (List.mergeSort_perm (nameL es) leB).map (fun x : List UInt8 => (⟨x.toArray⟩ : ByteArray))
 refine h.trans ?_
 unfold nameL
 rw [List.map_map]
 exact List.Perm.of_eq (List.map_congr_left fun e _ => by cases e with | mk k v b => cases k; simp)
theorem namesE_len (es : FM) : (namesE es).length = es.length := by rw [(namesE_perm es).length_eq, List.length_map]
def relK : Value → Option (DataW Unit × List MemPlace) := fun _ => some (.nil, [])
theorem owns_of {w : World} {r c : Nat} {es : FM} (h : w.heap[r]? = some (mapO encS BS.val es c)) (hg : GoodM es c) (hk : ∀ e ∈ es, e.k.size ≤ maxLen) (hn : es.length ≤ 1000000) :
 ∃ D0 : DataW Unit, w.ownsMap Tryz.prog 9 relK r es.length D0 ∧ (strKeys D0).Perm (nameL es) ∧ Maps.size D0 = es.length := by
 have hkey : ∀ e ∈ es, keyOf Tryz.prog 9 (encS e.k) = some (.string e.k.data.toList) := fun e he => by
  simp only [keyOf, Tryz.underlying9, mapKey, encS]
  rw [if_pos (hk e he)]
 have hrd : ∀ e ∈ es, Go.WideElems.rd Tryz.prog 9 relK (entV encS BS.val e) = some (.string e.k.data.toList, .nil) := fun e he => by
  simp only [Go.WideElems.rd, entV, hkey e he, relK, Option.bind_some, Option.map_some]
 have hl : (es.map (entV encS BS.val)).map (Go.WideElems.rg Tryz.prog 9 relK) = es.map fun e => ((.string e.k.data.toList, .nil) : Lit × DataW Unit) := by
  rw [List.map_map]
  exact List.map_congr_left fun e he => by simp only [Function.comp, Go.WideElems.rg, hrd e he, Option.getD_some]
 refine ⟨_, ⟨_, c, h, ⟨by simp only [List.size_toArray, List.length_map]; unfold maxLen; omega, ⟨fun x hx => ?_, ?_, ?_⟩, fun x hx => ?_⟩, by simp, rfl⟩, ?_, ?_⟩
 · obtain ⟨e, he, rfl⟩ := List.mem_map.1 (by simpa using hx)
   exact hg.lt e he
 · have hb2 := hg.born
   simp only [List.map_map]
   have : (es.map ((fun x : MapEntry => x.born) ∘ entV encS BS.val)) = es.map (·.b) := rfl
   rw [this]; exact hb2
 · have hk2 := hg.keys
   simp only [List.map_map]
   have : (es.map ((fun x : MapEntry => x.key) ∘ entV encS BS.val)) = (es.map (·.k)).map encS := by rw [List.map_map]; rfl
   rw [this]
   exact List.Pairwise.map _ (fun a b hab h => hab (by simpa [encS] using h)) hk2
 · obtain ⟨e, he, rfl⟩ := List.mem_map.1 (by simpa using hx)
   exact ⟨_, hrd e he⟩
 · have hp := Go.WideShapes.sorted_perm ((es.map (entV encS BS.val)).map (Go.WideElems.rg Tryz.prog 9 relK))
   have h2 := hp.map (fun p : Lit × DataW Unit => strOf p.1)
   rw [hl, List.map_map] at h2
   simp only [strKeys]
   rw [hl]
   exact h2
 · simp only [Maps.size]
   rw [(Go.WideShapes.sorted_perm _).length_eq]; simp
theorem keys_c {w0 : World} {H : List SA} {r : Nat} : CT Tryz.prog w0 H 102 [.map (some r)] (α := Nat) (fun b => .func (.func 147) #[] #[.pointer (some ⟨b, 0, none⟩)]) (fun b => blk b (.cells #[.map (some r)] 70 (0, 0)) :: H) := fun w hw => by
 refine (callsIn_wide.1 (AnyZ.keys_in nmKeys Fence.wide 5 trivial rfl (some r) w)).mono ?_
 rintro e w' ⟨rfl, rfl⟩
 exact ⟨w.heap.size, rfl, hw.alloc _⟩
set_option maxHeartbeats 1000000 in
theorem sorted_c {w0 : World} {H : List SA} {r b c : Nat} {es : FM} [hm : Mem w0 H r (mapO encS BS.val es c)] [hb : Mem w0 H b (.cells #[.map (some r)] 70 (0, 0))] (hg : GoodM es c) (hk : ∀ e ∈ es, e.k.size ≤ maxLen) (hn : es.length ≤ 1000000) :
 CT Tryz.prog w0 H 101 [.func (.func 147) #[] #[.pointer (some ⟨b, 0, none⟩)]] (α := AC) (fun y => .slice y.a (namesE es).length y.c) (fun y => row (.slice y.a (namesE es).length y.c) 9 1 ((namesE es).map encS) :: H) := fun w hw => by
 obtain ⟨D0, hown, hperm, hsz⟩ := owns_of (hm.get w hw) hg hk hn
 have hbw := hb.get w hw
 have hbl : b < w.heap.size := (Array.getElem?_eq_some_iff.1 hbw).1
 have hcell : w.cell? ⟨b, 0, none⟩ = some (.map (some r)) := by simp [World.cell?, hbw]
 have hseq : SeqGives Fence.wide 2 Tryz.prog 147 #[.pointer (some ⟨b, 0, none⟩)] encStr (fun ss => ss.Perm (strKeys D0)) (Maps.size D0) w :=
  AnyZ.keys_gives (ρ := nmKeys_ren) { nmKeys with } Fence.wide _ trivial rfl (by omega) b r es.length D0 w hbl hcell hown
 refine (callsIn_wide.1 (AnyZ.sorted_in nmSorted Fence.wide 5 trivial trivial trivial trivial rfl (by omega) (nmSorts _) (enters_of Tryz.func146 (by kernel_rfl) rfl) 147 #[.pointer (some ⟨b, 0, none⟩)] trivial (enters_of Tryz.func147 (by kernel_rfl) rfl) _ _ (by rw [hsz]; unfold maxLen; omega) (by rw [hsz]; omega) w hseq)).mono ?_
 rintro e w' ⟨v, ss, rfl, hS, hrow, hnil, hbe⟩
 have hss : ss.mergeSort leB = (nameL es).mergeSort leB := mergeSort_of_perm (hS.trans hperm)
 have hnl : ss.length = (namesE es).length := by rw [(hS.trans hperm).length_eq, namesE_len]; simp [nameL]
 have hxs : (ss.mergeSort leB).map encStr = (namesE es).map encS := by
  rw [hss, namesE, List.map_map]; rfl
 obtain ⟨h1, h2⟩ := hrow
 replace h2 : (v = .slice none 0 0 ∧ ss.length = 0) ∨ ∃ g cap cur, v = .slice (some ⟨g, 0, none⟩) ss.length cap ∧ w.heap.size ≤ g ∧ w'.heap[g]? = some (.cells cur 9 (0, 0)) ∧ ss.length ≤ cap ∧ cap ≤ maxLen ∧ cur.size = cap * 1 ∧ cur.toList.take (ss.length * 1) = (ss.mergeSort leB).map encStr := h2
 rw [hxs] at h2
 rcases h2 with ⟨rfl, h0⟩ | ⟨g, cap, cur, rfl, hge, hgc, q1, q2, q3, q4⟩
 · refine ⟨⟨none, 0⟩, by rw [← hnl, h0], hw.fresh hbe.os hbe.tape hbe.output hbe.size hbe.block ?_ (by simp [row, rowFp]) (by simp [row, rowFp])⟩
   exact ⟨none, 0, 0, by rw [← hnl, h0], by rw [List.length_map, ← hnl, h0], Nat.le_refl _, by unfold maxLen; omega, fun _ => rfl, fun h => absurd rfl h⟩
 · have hgl : g < w'.heap.size := (Array.getElem?_eq_some_iff.1 hgc).1
   refine ⟨⟨some ⟨g, 0, none⟩, cap⟩, by rw [hnl], hw.fresh hbe.os hbe.tape hbe.output hbe.size hbe.block ?_ ?_ ?_⟩
   · exact ⟨some ⟨g, 0, none⟩, (namesE es).length, cap, rfl, by simp, by omega, q2, (fun h => by cases h), fun _ => ⟨g, cur, rfl, hgc, q3, by rw [← hnl]; exact q4⟩⟩
   · by_cases h0 : cap = 0 <;> simp [row, rowFp, h0]
   · intro b' hb'
     by_cases h0 : cap = 0
     · simp [row, rowFp, h0] at hb'
     · obtain rfl : b' = g := by simpa [row, rowFp, h0] using hb'
       exact ⟨hge, hgl⟩
def fineF (r : Nat) : Bool := decide (r < 97) || decide (122 < r)
def fineB (s : ByteArray) : Bool := decide (1 ≤ s.size) && (decide (s.size ≤ 8) && decide (Lib.idxFunc fineF true s < 0))
theorem fineP (w : World) : PredAt Tryz.prog 100 #[] Go.Proofs.encR fineF w := fun W r _ => by
 unfold FnGives fineF
 by_cases h1 : r < 97 <;> by_cases h2 : 122 < r
 all_goals
  have z1 : (r : Int) < 97 ↔ r < 97 := by omega
  have z2 : (122 : Int) < (r : Int) ↔ 122 < r := by omega
  go_enter Tryz.func100, Tryz.ntmps100
  go_wp2
  all_goals first | (exfalso; omega) | (go_ret; exact ⟨by simp [h1, h2], 0, rfl⟩)
theorem St.later {w0 w w' : World} {H : List SA} (hw : St w0 H w) (hb : Below w.heap.size w w') : St w0 H w' :=
 (hw.fresh (x' := pu True) hb.os hb.tape hb.output hb.size hb.block trivial (by simp [pu]) (by simp [pu])).tail
theorem idx_c {w0 : World} {H : List SA} {s : ByteArray} : CT Tryz.prog w0 H 99 [.string s, .func (.func 100) #[] #[]] (α := Unit) (fun _ => .int .i64 (Lib.idxFunc fineF true s)) (fun _ => H) := fun w hw => by
 refine (Any.strings_IndexFunc nmIdx 100 #[] (enters_of Tryz.func100 (by kernel_rfl) rfl) fineF s w (fineP w)).mono ?_
 rintro e w' ⟨rfl, hb⟩
 exact ⟨(), rfl, St.later hw hb⟩
theorem itoa_c {w0 : World} {H : List SA} {i : Nat} (hi : i < 100) : CT Tryz.prog w0 H 105 [.int .i64 (i : Int)] (α := Unit) (fun _ => .string ⟨(Lib.decDigits i).toArray⟩) (fun _ => H) := fun w hw => by
 refine (Any.strconv_Itoa_small nmItoa i hi w).mono ?_
 rintro e w' ⟨rfl, rfl⟩
 exact ⟨(), rfl, hw⟩
theorem atoi_c {w0 : World} {H : List SA} {s : ByteArray} (hs : s.size ≤ 1000000) {v : Int} (h : Lib.atoiAll s.data.toList = .ok v) : CT Tryz.prog w0 H 104 [.string s] (α := Unit) (fun _ => .tuple #[.int .i64 v, .nilIface]) (fun _ => H) := fun w hw => by
 refine (Any.strconv_Atoi_ok nmAtoi s (by omega) v h w).mono ?_
 rintro e w' ⟨rfl, rfl | ⟨t, rfl⟩⟩
 · exact ⟨(), rfl, hw⟩
 · exact ⟨(), rfl, St.later hw (Lib.bytesWorld_below w _ t)⟩
theorem cut_c {w0 : World} {H : List SA} {s p : ByteArray} : CT Tryz.prog w0 H 103 [.string s, .string p] (α := Unit) (fun _ => .tuple #[.string ⟨(Lib.trimPrefix s.data.toList p.data.toList).toArray⟩, .bool (Lib.hasPrefix s.data.toList p.data.toList)]) (fun _ => H) := fun w hw => by
 refine (Any.strings_CutPrefix nmCut s p w).mono ?_
 rintro e w' ⟨rfl, rfl⟩
 exact ⟨(), rfl, hw⟩
theorem sort0_c {w0 : World} {H : List SA} {a : Option Addr} {c : Nat} : CT Tryz.prog w0 H 63 [.slice a 0 c] (α := Unit) (fun _ => .tuple #[]) (fun _ => H) := fun w hw => by
 refine (AnyM.slices_Sort_int_none nmSortI a c w).mono ?_
 rintro e w' ⟨rfl, rfl⟩
 exact ⟨(), rfl, hw⟩
attribute [local irreducible] namesE
set_option maxHeartbeats 1000000 in
theorem dnames_c {w0 : World} {H : List SA} {p : Nat} {s : DS} {N M : Nat} (hok : s.Ok N M) (hN : N ≤ 1000000) (hkz : ∀ e ∈ s.e2, e.k.size ≤ maxLen) :
 CT Tryz.prog w0 (DS.H p s H) 61 [.pointer (some ⟨p, 0, none⟩)] (α := AC) (fun y => .slice y.a (namesE s.e2).length y.c) (fun y => row (.slice y.a (namesE s.e2).length y.c) 9 1 ((namesE s.e2).map encS) :: DS.H p s H) := by
 refine CT_intro Tryz.func61 rfl Tryz.ntmps61 rfl ?_
 refine T2 (Qas rfl rfl (TX (zS (T2 ?_))))
 refine zq (zm (.pointer _) rfl) rfl (zq (Qt_ptr_nil rfl rfl Tryz.underlying28) rfl (TX (zC rfl (fun h4 => ?_) (fun h4 => ?_))))
 ·
  have p4 := h4
  try simp only [dp] at p4
  cases h4
 have p4 := h4
 try simp only [dp] at p4
 refine S4 (zq (zm (.pointer _) rfl) rfl (zq (Qt_nilCheck rfl) rfl (zq (zf 2 rfl rfl) rfl (zq (zl rfl) rfl ?_))))
 refine ze rfl (zc (keys_c (r := s.r2)) rfl (fun x9 => ?_))
 refine ze rfl (zc (sorted_c (r := s.r2) (b := x9) (es := s.e2) (c := s.c2) hok.good2 hkz (by have := hok.n2; omega)) rfl (fun x10 => ?_))
 refine Qas rfl rfl (TX (zQ ?_))
 exact zX x10 [_] Tryz.results61 ⟨rfl, trivial⟩ rfl SB
end Go.Proofs.YtgeknnclmhfjlaaGreatDoor

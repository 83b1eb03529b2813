/- The library's contracts at this program: names, sorted; numerals; prefixes; runes. -/
import Derived.Shelf.SlIter.Nil
import Derived.Shelf.SortM.Plain
import Derived.Shelf.SortM.SortNone
import Derived.Shelf.Strconv.Itoa3
import Derived.Shelf.Strconv.AtoiAll
import Derived.Shelf.Small.Wraps
import Derived.Shelf.GgClosure.StringsIndexFuncTop
import Derived.Test.YtgfbdcjamalhhaaGreatDoorDz
namespace Go.Proofs.YtgfbdcjamalhhaaGreatDoor
open Go.RowKit Go.Sx
set_option maxRecDepth 100000
set_option linter.unusedSimpArgs false
set_option linter.unusedVariables false
open Go.Maps Go.Sort Go.Shelf
def nmKeys_ren : Go.Shelf.Ren := ⟨fun | 7 => 82 | 10 => 141 | n => n, fun | 23 => 94 | 26 => 9 | 3 => 30 | 28 => 149 | 0 => 0 | 27 => 148 | 33 => 98 | 4 => 4 | n => n, fun | n => n⟩
theorem nmKeys : Go.Proofs.SlLaysZ.n7 Tryz.prog nmKeys_ren where
  mixed := by kernel_rfl
  f7 := ⟨Tryz.f82.name, by decide, Tryz.func82.trans (congrArg some (by kernel_rfl))⟩
  f10 := ⟨Tryz.f141.name, by decide, Tryz.func141.trans (congrArg some (by kernel_rfl))⟩
  t0 := Tryz.underlying0
  a0 := Tryz.isAgg0
  z0 := Tryz.sizeOf0
  v0 := Tryz.zeroValue0
  t4 := Tryz.underlying4
  a4 := Tryz.isAgg4
  z4 := Tryz.sizeOf4
  v4 := Tryz.zeroValue4
  t23 := Tryz.underlying94
  a23 := Tryz.isAgg94
  z23 := Tryz.sizeOf94
  v23 := Tryz.zeroValue94
  t26 := Tryz.underlying9
  a26 := Tryz.isAgg9
  z26 := Tryz.sizeOf9
  v26 := Tryz.zeroValue9
  t27 := Tryz.underlying148
  a27 := Tryz.isAgg148
  z27 := Tryz.sizeOf148
  v27 := Tryz.zeroValue148
  t28 := Tryz.underlying149
  a28 := Tryz.isAgg149
  z28 := Tryz.sizeOf149
  v28 := Tryz.zeroValue149
  t33 := Tryz.underlying98
  a33 := Tryz.isAgg98
  z33 := Tryz.sizeOf98
  v33 := Tryz.zeroValue98
def nmSorted_ren : Go.Shelf.Ren := ⟨fun | 6 => 81 | 8 => 139 | 9 => 140 | 11 => 186 | 13 => 87 | 12 => 187 | 23 => 155 | 24 => 156 | 14 => 215 | 15 => 216 | 16 => 217 | 17 => 218 | 18 => 219 | 19 => 220 | 20 => 221 | 21 => 222 | 22 => 223 | 25 => 242 | 26 => 196 | 27 => 197 | 28 => 243 | 29 => 244 | 30 => 245 | 31 => 255 | n => n, fun | 26 => 9 | 28 => 149 | 24 => 102 | 0 => 0 | 3 => 3 | 37 => 159 | 48 => 237 | 50 => 36 | 4 => 4 | 40 => 230 | 39 => 229 | 45 => 234 | 5 => 5 | 9 => 9 | 51 => 290 | 55 => 202 | 57 => 322 | 58 => 79 | 33 => 98 | n => n, fun | n => n⟩
theorem nmSorted : Go.Proofs.SlLaysZ.n6 Tryz.prog nmSorted_ren where
  mixed := by kernel_rfl
  f6 := ⟨Tryz.f81.name, by decide, Tryz.func81.trans (congrArg some (by kernel_rfl))⟩
  f8 := ⟨Tryz.f139.name, by decide, Tryz.func139.trans (congrArg some (by kernel_rfl))⟩
  f11 := ⟨Tryz.f186.name, by decide, Tryz.func186.trans (congrArg some (by kernel_rfl))⟩
  t0 := Tryz.underlying0
  a0 := Tryz.isAgg0
  z0 := Tryz.sizeOf0
  v0 := Tryz.zeroValue0
  t24 := Tryz.underlying102
  a24 := Tryz.isAgg102
  z24 := Tryz.sizeOf102
  v24 := Tryz.zeroValue102
  t26 := Tryz.underlying9
  a26 := Tryz.isAgg9
  z26 := Tryz.sizeOf9
  v26 := Tryz.zeroValue9
  t28 := Tryz.underlying149
  a28 := Tryz.isAgg149
  z28 := Tryz.sizeOf149
  v28 := Tryz.zeroValue149
  i26 := by kernel_rfl
def nmSortS_ren : Go.Shelf.Ren := ⟨fun | 6 => 140 | 8 => 87 | 9 => 187 | 19 => 155 | 20 => 156 | 21 => 215 | 22 => 216 | 23 => 217 | 24 => 218 | 25 => 219 | 26 => 220 | 27 => 221 | 28 => 222 | 29 => 223 | 36 => 242 | 31 => 196 | 32 => 197 | 37 => 243 | 38 => 244 | 39 => 245 | 41 => 255 | n => n, fun | 27 => 102 | 29 => 9 | 3 => 3 | 32 => 159 | 26 => 102 | 0 => 0 | 44 => 237 | 46 => 36 | 4 => 4 | 36 => 230 | 35 => 229 | 41 => 234 | 5 => 5 | 9 => 9 | 53 => 290 | 57 => 202 | 63 => 322 | 64 => 79 | n => n, fun | n => n⟩
theorem nmSortS : Go.Proofs.SlLaysM.n6 Tryz.prog nmSortS_ren where
  mixed := by kernel_rfl
  f6 := ⟨Tryz.f140.name, by decide, Tryz.func140.trans (congrArg some (by kernel_rfl))⟩
  f8 := Tryz.func87.trans (congrArg some (by kernel_rfl))
  f9 := ⟨Tryz.f187.name, by decide, Tryz.func187.trans (congrArg some (by kernel_rfl))⟩
  f19 := Tryz.func155.trans (congrArg some (by kernel_rfl))
  f20 := Tryz.func156.trans (congrArg some (by kernel_rfl))
  f21 := ⟨Tryz.f215.name, by decide, Tryz.func215.trans (congrArg some (by kernel_rfl))⟩
  f22 := ⟨Tryz.f216.name, by decide, Tryz.func216.trans (congrArg some (by kernel_rfl))⟩
  f23 := ⟨Tryz.f217.name, by decide, Tryz.func217.trans (congrArg some (by kernel_rfl))⟩
  f24 := ⟨Tryz.f218.name, by decide, Tryz.func218.trans (congrArg some (by kernel_rfl))⟩
  f25 := ⟨Tryz.f219.name, by decide, Tryz.func219.trans (congrArg some (by kernel_rfl))⟩
  f26 := ⟨Tryz.f220.name, by decide, Tryz.func220.trans (congrArg some (by kernel_rfl))⟩
  f27 := ⟨Tryz.f221.name, by decide, Tryz.func221.trans (congrArg some (by kernel_rfl))⟩
  f28 := ⟨Tryz.f222.name, by decide, Tryz.func222.trans (congrArg some (by kernel_rfl))⟩
  f29 := ⟨Tryz.f223.name, by decide, Tryz.func223.trans (congrArg some (by kernel_rfl))⟩
  f31 := Tryz.func196.trans (congrArg some (by kernel_rfl))
  f32 := Tryz.func197.trans (congrArg some (by kernel_rfl))
  f36 := ⟨Tryz.f242.name, by decide, Tryz.func242.trans (congrArg some (by kernel_rfl))⟩
  f37 := ⟨Tryz.f243.name, by decide, Tryz.func243.trans (congrArg some (by kernel_rfl))⟩
  f38 := ⟨Tryz.f244.name, by decide, Tryz.func244.trans (congrArg some (by kernel_rfl))⟩
  f39 := ⟨Tryz.f245.name, by decide, Tryz.func245.trans (congrArg some (by kernel_rfl))⟩
  f41 := ⟨Tryz.f255.name, by decide, Tryz.func255.trans (congrArg some (by kernel_rfl))⟩
  t0 := Tryz.underlying0
  a0 := Tryz.isAgg0
  z0 := Tryz.sizeOf0
  v0 := Tryz.zeroValue0
  t3 := Tryz.underlying3
  a3 := Tryz.isAgg3
  z3 := Tryz.sizeOf3
  v3 := Tryz.zeroValue3
  t4 := Tryz.underlying4
  a4 := Tryz.isAgg4
  z4 := Tryz.sizeOf4
  v4 := Tryz.zeroValue4
  t5 := Tryz.underlying5
  a5 := Tryz.isAgg5
  z5 := Tryz.sizeOf5
  v5 := Tryz.zeroValue5
  t9 := Tryz.underlying9
  a9 := Tryz.isAgg9
  z9 := Tryz.sizeOf9
  v9 := Tryz.zeroValue9
  t26 := Tryz.underlying102
  a26 := Tryz.isAgg102
  z26 := Tryz.sizeOf102
  v26 := Tryz.zeroValue102
  t27 := Tryz.underlying102
  a27 := Tryz.isAgg102
  z27 := Tryz.sizeOf102
  v27 := Tryz.zeroValue102
  t29 := Tryz.underlying9
  a29 := Tryz.isAgg9
  z29 := Tryz.sizeOf9
  v29 := Tryz.zeroValue9
  t32 := Tryz.underlying159
  a32 := Tryz.isAgg159
  z32 := Tryz.sizeOf159
  v32 := Tryz.zeroValue159
  t35 := Tryz.underlying229
  a35 := Tryz.isAgg229
  z35 := Tryz.sizeOf229
  v35 := Tryz.zeroValue229
  t36 := Tryz.underlying230
  a36 := Tryz.isAgg230
  z36 := Tryz.sizeOf230
  v36 := Tryz.zeroValue230
  t41 := Tryz.underlying234
  a41 := Tryz.isAgg234
  z41 := Tryz.sizeOf234
  v41 := Tryz.zeroValue234
  t44 := Tryz.underlying237
  a44 := Tryz.isAgg237
  z44 := Tryz.sizeOf237
  v44 := Tryz.zeroValue237
  t46 := Tryz.underlying36
  a46 := Tryz.isAgg36
  z46 := Tryz.sizeOf36
  v46 := Tryz.zeroValue36
  t53 := Tryz.underlying290
  a53 := Tryz.isAgg290
  z53 := Tryz.sizeOf290
  v53 := Tryz.zeroValue290
  t57 := Tryz.underlying202
  a57 := Tryz.isAgg202
  z57 := Tryz.sizeOf202
  v57 := Tryz.zeroValue202
  t63 := Tryz.underlying322
  a63 := Tryz.isAgg322
  z63 := Tryz.sizeOf322
  v63 := Tryz.zeroValue322
  t64 := Tryz.underlying79
  a64 := Tryz.isAgg79
  z64 := Tryz.sizeOf79
  v64 := Tryz.zeroValue79
def nmSortI_ren : Go.Shelf.Ren := ⟨fun | 5 => 37 | 8 => 87 | 7 => 86 | 19 => 155 | 20 => 156 | 10 => 146 | 11 => 147 | 12 => 148 | 13 => 149 | 14 => 150 | 15 => 151 | 16 => 152 | 17 => 153 | 18 => 154 | 30 => 195 | 31 => 196 | 32 => 197 | 33 => 198 | 34 => 199 | 35 => 200 | 40 => 231 | n => n, fun | 23 => 99 | 25 => 3 | 3 => 3 | 32 => 159 | 22 => 99 | 0 => 0 | 44 => 237 | 46 => 36 | 4 => 4 | 36 => 230 | 35 => 229 | 41 => 234 | 5 => 5 | 9 => 9 | 53 => 290 | 57 => 202 | 63 => 322 | 64 => 79 | n => n, fun | n => n⟩
theorem nmSortI : Go.Proofs.SlLaysM.n5 Tryz.prog nmSortI_ren where
  mixed := by kernel_rfl
  f5 := ⟨Tryz.f37.name, by decide, Tryz.func37.trans (congrArg some (by kernel_rfl))⟩
  f7 := ⟨Tryz.f86.name, by decide, Tryz.func86.trans (congrArg some (by kernel_rfl))⟩
  f8 := Tryz.func87.trans (congrArg some (by kernel_rfl))
  f10 := ⟨Tryz.f146.name, by decide, Tryz.func146.trans (congrArg some (by kernel_rfl))⟩
  f11 := ⟨Tryz.f147.name, by decide, Tryz.func147.trans (congrArg some (by kernel_rfl))⟩
  f12 := ⟨Tryz.f148.name, by decide, Tryz.func148.trans (congrArg some (by kernel_rfl))⟩
  f13 := ⟨Tryz.f149.name, by decide, Tryz.func149.trans (congrArg some (by kernel_rfl))⟩
  f14 := ⟨Tryz.f150.name, by decide, Tryz.func150.trans (congrArg some (by kernel_rfl))⟩
  f15 := ⟨Tryz.f151.name, by decide, Tryz.func151.trans (congrArg some (by kernel_rfl))⟩
  f16 := ⟨Tryz.f152.name, by decide, Tryz.func152.trans (congrArg some (by kernel_rfl))⟩
  f17 := ⟨Tryz.f153.name, by decide, Tryz.func153.trans (congrArg some (by kernel_rfl))⟩
  f18 := ⟨Tryz.f154.name, by decide, Tryz.func154.trans (congrArg some (by kernel_rfl))⟩
  f19 := Tryz.func155.trans (congrArg some (by kernel_rfl))
  f20 := Tryz.func156.trans (congrArg some (by kernel_rfl))
  f30 := ⟨Tryz.f195.name, by decide, Tryz.func195.trans (congrArg some (by kernel_rfl))⟩
  f31 := Tryz.func196.trans (congrArg some (by kernel_rfl))
  f32 := Tryz.func197.trans (congrArg some (by kernel_rfl))
  f33 := ⟨Tryz.f198.name, by decide, Tryz.func198.trans (congrArg some (by kernel_rfl))⟩
  f34 := ⟨Tryz.f199.name, by decide, Tryz.func199.trans (congrArg some (by kernel_rfl))⟩
  f35 := ⟨Tryz.f200.name, by decide, Tryz.func200.trans (congrArg some (by kernel_rfl))⟩
  f40 := ⟨Tryz.f231.name, by decide, Tryz.func231.trans (congrArg some (by kernel_rfl))⟩
  t0 := Tryz.underlying0
  a0 := Tryz.isAgg0
  z0 := Tryz.sizeOf0
  v0 := Tryz.zeroValue0
  t3 := Tryz.underlying3
  a3 := Tryz.isAgg3
  z3 := Tryz.sizeOf3
  v3 := Tryz.zeroValue3
  t4 := Tryz.underlying4
  a4 := Tryz.isAgg4
  z4 := Tryz.sizeOf4
  v4 := Tryz.zeroValue4
  t5 := Tryz.underlying5
  a5 := Tryz.isAgg5
  z5 := Tryz.sizeOf5
  v5 := Tryz.zeroValue5
  t9 := Tryz.underlying9
  a9 := Tryz.isAgg9
  z9 := Tryz.sizeOf9
  v9 := Tryz.zeroValue9
  t22 := Tryz.underlying99
  a22 := Tryz.isAgg99
  z22 := Tryz.sizeOf99
  v22 := Tryz.zeroValue99
  t23 := Tryz.underlying99
  a23 := Tryz.isAgg99
  z23 := Tryz.sizeOf99
  v23 := Tryz.zeroValue99
  t25 := Tryz.underlying3
  a25 := Tryz.isAgg3
  z25 := Tryz.sizeOf3
  v25 := Tryz.zeroValue3
  t32 := Tryz.underlying159
  a32 := Tryz.isAgg159
  z32 := Tryz.sizeOf159
  v32 := Tryz.zeroValue159
  t35 := Tryz.underlying229
  a35 := Tryz.isAgg229
  z35 := Tryz.sizeOf229
  v35 := Tryz.zeroValue229
  t36 := Tryz.underlying230
  a36 := Tryz.isAgg230
  z36 := Tryz.sizeOf230
  v36 := Tryz.zeroValue230
  t41 := Tryz.underlying234
  a41 := Tryz.isAgg234
  z41 := Tryz.sizeOf234
  v41 := Tryz.zeroValue234
  t44 := Tryz.underlying237
  a44 := Tryz.isAgg237
  z44 := Tryz.sizeOf237
  v44 := Tryz.zeroValue237
  t46 := Tryz.underlying36
  a46 := Tryz.isAgg36
  z46 := Tryz.sizeOf36
  v46 := Tryz.zeroValue36
  t53 := Tryz.underlying290
  a53 := Tryz.isAgg290
  z53 := Tryz.sizeOf290
  v53 := Tryz.zeroValue290
  t57 := Tryz.underlying202
  a57 := Tryz.isAgg202
  z57 := Tryz.sizeOf202
  v57 := Tryz.zeroValue202
  t63 := Tryz.underlying322
  a63 := Tryz.isAgg322
  z63 := Tryz.sizeOf322
  v63 := Tryz.zeroValue322
  t64 := Tryz.underlying79
  a64 := Tryz.isAgg79
  z64 := Tryz.sizeOf79
  v64 := Tryz.zeroValue79
def nmItoa_ren : Go.Shelf.Ren := ⟨fun | 171 => 85 | 243 => 145 | 246 => 194 | 283 => 227 | 284 => 228 | 285 => 229 | 286 => 230 | 129 => 156 | 317 => 248 | 318 => 249 | 319 => 250 | 320 => 251 | 337 => 256 | 338 => 257 | n => n, fun | 3 => 3 | 9 => 9 | 2 => 2 | 4 => 4 | 171 => 318 | 0 => 0 | 53 => 36 | 37 => 30 | 5 => 5 | 173 => 320 | 212 => 340 | 51 => 237 | 20 => 20 | 213 => 341 | 46 => 159 | 232 => 46 | 233 => 346 | n => n, fun | 17 => 2 | 18 => 3 | 19 => 4 | n => n⟩
theorem nmItoa : Go.Proofs.Lays.n171 Tryz.prog nmItoa_ren where
  mixed := by kernel_rfl
  f129 := Tryz.func156.trans (congrArg some (by kernel_rfl))
  f171 := Tryz.func85.trans (congrArg some (by kernel_rfl))
  f243 := Tryz.func145.trans (congrArg some (by kernel_rfl))
  f246 := Tryz.func194.trans (congrArg some (by kernel_rfl))
  f283 := Tryz.func227.trans (congrArg some (by kernel_rfl))
  f284 := Tryz.func228.trans (congrArg some (by kernel_rfl))
  f285 := Tryz.func229.trans (congrArg some (by kernel_rfl))
  f286 := Tryz.func230.trans (congrArg some (by kernel_rfl))
  f317 := Tryz.func248.trans (congrArg some (by kernel_rfl))
  f318 := Tryz.func249.trans (congrArg some (by kernel_rfl))
  f319 := Tryz.func250.trans (congrArg some (by kernel_rfl))
  f320 := Tryz.func251.trans (congrArg some (by kernel_rfl))
  f337 := Tryz.func256.trans (congrArg some (by kernel_rfl))
  f338 := Tryz.func257.trans (congrArg some (by kernel_rfl))
  t0 := Tryz.underlying0
  a0 := Tryz.isAgg0
  z0 := Tryz.sizeOf0
  v0 := Tryz.zeroValue0
  t2 := Tryz.underlying2
  a2 := Tryz.isAgg2
  z2 := Tryz.sizeOf2
  v2 := Tryz.zeroValue2
  t3 := Tryz.underlying3
  a3 := Tryz.isAgg3
  z3 := Tryz.sizeOf3
  v3 := Tryz.zeroValue3
  t4 := Tryz.underlying4
  a4 := Tryz.isAgg4
  z4 := Tryz.sizeOf4
  v4 := Tryz.zeroValue4
  t5 := Tryz.underlying5
  a5 := Tryz.isAgg5
  z5 := Tryz.sizeOf5
  v5 := Tryz.zeroValue5
  t9 := Tryz.underlying9
  a9 := Tryz.isAgg9
  z9 := Tryz.sizeOf9
  v9 := Tryz.zeroValue9
  t20 := Tryz.underlying20
  a20 := Tryz.isAgg20
  z20 := Tryz.sizeOf20
  v20 := Tryz.zeroValue20
  t37 := Tryz.underlying30
  a37 := Tryz.isAgg30
  z37 := Tryz.sizeOf30
  v37 := Tryz.zeroValue30
  t46 := Tryz.underlying159
  a46 := Tryz.isAgg159
  z46 := Tryz.sizeOf159
  v46 := Tryz.zeroValue159
  t51 := Tryz.underlying237
  a51 := Tryz.isAgg237
  z51 := Tryz.sizeOf237
  v51 := Tryz.zeroValue237
  t53 := Tryz.underlying36
  a53 := Tryz.isAgg36
  z53 := Tryz.sizeOf36
  v53 := Tryz.zeroValue36
  t171 := Tryz.underlying318
  a171 := Tryz.isAgg318
  z171 := Tryz.sizeOf318
  v171 := Tryz.zeroValue318
  t173 := Tryz.underlying320
  a173 := Tryz.isAgg320
  z173 := Tryz.sizeOf320
  v173 := Tryz.zeroValue320
  t212 := Tryz.underlying340
  a212 := Tryz.isAgg340
  z212 := Tryz.sizeOf340
  v212 := Tryz.zeroValue340
  t213 := Tryz.underlying341
  a213 := Tryz.isAgg341
  z213 := Tryz.sizeOf341
  t232 := Tryz.underlying46
  a232 := Tryz.isAgg46
  z232 := Tryz.sizeOf46
  v232 := Tryz.zeroValue46
  t233 := Tryz.underlying346
  a233 := Tryz.isAgg346
  z233 := Tryz.sizeOf346
  v233 := Tryz.zeroValue346
  g17 := by kernel_rfl
  g18 := by kernel_rfl
  g19 := by kernel_rfl
def nmAtoi_ren : Go.Shelf.Ren := ⟨fun | 172 => 84 | 244 => 143 | 245 => 144 | 247 => 189 | 279 => 190 | 280 => 191 | 281 => 192 | 282 => 193 | 287 => 224 | 316 => 225 | 171 => 85 | 205 => 226 | 321 => 246 | 322 => 247 | 243 => 145 | 246 => 194 | 283 => 227 | 284 => 228 | 285 => 229 | 286 => 230 | 129 => 156 | 317 => 248 | 318 => 249 | 319 => 250 | 320 => 251 | 337 => 256 | 338 => 257 | n => n, fun | 9 => 9 | 3 => 3 | 75 => 154 | 76 => 155 | 4 => 4 | 5 => 5 | 167 => 283 | 37 => 30 | 0 => 0 | 85 => 284 | 2 => 2 | 168 => 286 | 53 => 36 | 175 => 312 | 46 => 159 | 210 => 316 | 127 => 334 | 145 => 337 | 143 => 335 | 21 => 21 | 171 => 318 | 173 => 320 | 212 => 340 | 51 => 237 | 20 => 20 | 213 => 341 | 232 => 46 | 233 => 346 | 80 => 347 | n => n, fun | 15 => 0 | 16 => 1 | 17 => 2 | 18 => 3 | 19 => 4 | n => n⟩
theorem nmAtoi : Go.Proofs.LaysC.n172 Tryz.prog nmAtoi_ren where
  mixed := by kernel_rfl
  f129 := Tryz.func156.trans (congrArg some (by kernel_rfl))
  f171 := Tryz.func85.trans (congrArg some (by kernel_rfl))
  f172 := Tryz.func84.trans (congrArg some (by kernel_rfl))
  f205 := Tryz.func226.trans (congrArg some (by kernel_rfl))
  f243 := Tryz.func145.trans (congrArg some (by kernel_rfl))
  f244 := Tryz.func143.trans (congrArg some (by kernel_rfl))
  f245 := Tryz.func144.trans (congrArg some (by kernel_rfl))
  f246 := Tryz.func194.trans (congrArg some (by kernel_rfl))
  f247 := Tryz.func189.trans (congrArg some (by kernel_rfl))
  f279 := Tryz.func190.trans (congrArg some (by kernel_rfl))
  f280 := Tryz.func191.trans (congrArg some (by kernel_rfl))
  f281 := Tryz.func192.trans (congrArg some (by kernel_rfl))
  f282 := Tryz.func193.trans (congrArg some (by kernel_rfl))
  f283 := Tryz.func227.trans (congrArg some (by kernel_rfl))
  f284 := Tryz.func228.trans (congrArg some (by kernel_rfl))
  f285 := Tryz.func229.trans (congrArg some (by kernel_rfl))
  f286 := Tryz.func230.trans (congrArg some (by kernel_rfl))
  f287 := Tryz.func224.trans (congrArg some (by kernel_rfl))
  f316 := Tryz.func225.trans (congrArg some (by kernel_rfl))
  f317 := Tryz.func248.trans (congrArg some (by kernel_rfl))
  f318 := Tryz.func249.trans (congrArg some (by kernel_rfl))
  f319 := Tryz.func250.trans (congrArg some (by kernel_rfl))
  f320 := Tryz.func251.trans (congrArg some (by kernel_rfl))
  f321 := Tryz.func246.trans (congrArg some (by kernel_rfl))
  f322 := Tryz.func247.trans (congrArg some (by kernel_rfl))
  f337 := Tryz.func256.trans (congrArg some (by kernel_rfl))
  f338 := Tryz.func257.trans (congrArg some (by kernel_rfl))
  t0 := Tryz.underlying0
  a0 := Tryz.isAgg0
  z0 := Tryz.sizeOf0
  v0 := Tryz.zeroValue0
  t2 := Tryz.underlying2
  a2 := Tryz.isAgg2
  z2 := Tryz.sizeOf2
  v2 := Tryz.zeroValue2
  t3 := Tryz.underlying3
  a3 := Tryz.isAgg3
  z3 := Tryz.sizeOf3
  v3 := Tryz.zeroValue3
  t4 := Tryz.underlying4
  a4 := Tryz.isAgg4
  z4 := Tryz.sizeOf4
  v4 := Tryz.zeroValue4
  t5 := Tryz.underlying5
  a5 := Tryz.isAgg5
  z5 := Tryz.sizeOf5
  v5 := Tryz.zeroValue5
  t9 := Tryz.underlying9
  a9 := Tryz.isAgg9
  z9 := Tryz.sizeOf9
  v9 := Tryz.zeroValue9
  t20 := Tryz.underlying20
  a20 := Tryz.isAgg20
  z20 := Tryz.sizeOf20
  v20 := Tryz.zeroValue20
  t21 := Tryz.underlying21
  a21 := Tryz.isAgg21
  z21 := Tryz.sizeOf21
  v21 := Tryz.zeroValue21
  t37 := Tryz.underlying30
  a37 := Tryz.isAgg30
  z37 := Tryz.sizeOf30
  v37 := Tryz.zeroValue30
  t46 := Tryz.underlying159
  a46 := Tryz.isAgg159
  z46 := Tryz.sizeOf159
  v46 := Tryz.zeroValue159
  t51 := Tryz.underlying237
  a51 := Tryz.isAgg237
  z51 := Tryz.sizeOf237
  v51 := Tryz.zeroValue237
  t53 := Tryz.underlying36
  a53 := Tryz.isAgg36
  z53 := Tryz.sizeOf36
  v53 := Tryz.zeroValue36
  t75 := Tryz.underlying154
  a75 := Tryz.isAgg154
  z75 := Tryz.sizeOf154
  v75 := Tryz.zeroValue154
  t76 := Tryz.underlying155
  a76 := Tryz.isAgg155
  z76 := Tryz.sizeOf155
  v76 := Tryz.zeroValue155
  t85 := Tryz.underlying284
  a85 := Tryz.isAgg284
  z85 := Tryz.sizeOf284
  v85 := Tryz.zeroValue284
  t127 := Tryz.underlying334
  a127 := Tryz.isAgg334
  z127 := Tryz.sizeOf334
  v127 := Tryz.zeroValue334
  t143 := Tryz.underlying335
  a143 := Tryz.isAgg335
  z143 := Tryz.sizeOf335
  v143 := Tryz.zeroValue335
  t145 := Tryz.underlying337
  a145 := Tryz.isAgg337
  z145 := Tryz.sizeOf337
  v145 := Tryz.zeroValue337
  t167 := Tryz.underlying283
  a167 := Tryz.isAgg283
  z167 := Tryz.sizeOf283
  v167 := Tryz.zeroValue283
  t168 := Tryz.underlying286
  a168 := Tryz.isAgg286
  z168 := Tryz.sizeOf286
  v168 := Tryz.zeroValue286
  t171 := Tryz.underlying318
  a171 := Tryz.isAgg318
  z171 := Tryz.sizeOf318
  v171 := Tryz.zeroValue318
  t173 := Tryz.underlying320
  a173 := Tryz.isAgg320
  z173 := Tryz.sizeOf320
  v173 := Tryz.zeroValue320
  t175 := Tryz.underlying312
  a175 := Tryz.isAgg312
  z175 := Tryz.sizeOf312
  v175 := Tryz.zeroValue312
  t210 := Tryz.underlying316
  a210 := Tryz.isAgg316
  z210 := Tryz.sizeOf316
  v210 := Tryz.zeroValue316
  t212 := Tryz.underlying340
  a212 := Tryz.isAgg340
  z212 := Tryz.sizeOf340
  v212 := Tryz.zeroValue340
  t213 := Tryz.underlying341
  a213 := Tryz.isAgg341
  z213 := Tryz.sizeOf341
  t232 := Tryz.underlying46
  a232 := Tryz.isAgg46
  z232 := Tryz.sizeOf46
  v232 := Tryz.zeroValue46
  t233 := Tryz.underlying346
  a233 := Tryz.isAgg346
  z233 := Tryz.sizeOf346
  v233 := Tryz.zeroValue346
  g15 := by kernel_rfl
  g16 := by kernel_rfl
  g17 := by kernel_rfl
  g18 := by kernel_rfl
  g19 := by kernel_rfl
  t80 := Tryz.underlying347
  a80 := Tryz.isAgg347
  z80 := Tryz.sizeOf347
  v80 := Tryz.zeroValue347
  i0 := by kernel_rfl
  i2 := by kernel_rfl
  i3 := by kernel_rfl
  i4 := by kernel_rfl
  i5 := by kernel_rfl
  i9 := by kernel_rfl
  i20 := by kernel_rfl
  i21 := by kernel_rfl
  i37 := by kernel_rfl
  i46 := by kernel_rfl
  i51 := by kernel_rfl
  i53 := by kernel_rfl
  i75 := by kernel_rfl
  i76 := by kernel_rfl
  i80 := by kernel_rfl
  i85 := by kernel_rfl
  i127 := by kernel_rfl
  i143 := by kernel_rfl
  i145 := by kernel_rfl
  i167 := by kernel_rfl
  i168 := by kernel_rfl
  i171 := by kernel_rfl
  i173 := by kernel_rfl
  i175 := by kernel_rfl
  i210 := by kernel_rfl
  i212 := by kernel_rfl
  i232 := by kernel_rfl
  i233 := by kernel_rfl
  m15 := by kernel_rfl
  m16 := by kernel_rfl
  m17 := by kernel_rfl
  m18 := by kernel_rfl
  m19 := by kernel_rfl
  c0 := by kernel_rfl
  c2 := by kernel_rfl
  c3 := by kernel_rfl
  c4 := by kernel_rfl
  c5 := by kernel_rfl
  c9 := by kernel_rfl
  c20 := by kernel_rfl
  c21 := by kernel_rfl
  c37 := by kernel_rfl
  c46 := by kernel_rfl
  c51 := by kernel_rfl
  c53 := by kernel_rfl
  c75 := by kernel_rfl
  c76 := by kernel_rfl
  c80 := by kernel_rfl
  c85 := by kernel_rfl
  c127 := by kernel_rfl
  c143 := by kernel_rfl
  c145 := by kernel_rfl
  c167 := by kernel_rfl
  c168 := by kernel_rfl
  c171 := by kernel_rfl
  c173 := by kernel_rfl
  c175 := by kernel_rfl
  c210 := by kernel_rfl
  c212 := by kernel_rfl
  c213 := by kernel_rfl
  c232 := by kernel_rfl
  c233 := by kernel_rfl
def nmCut_ren : Go.Shelf.Ren := ⟨fun | 103 => 83 | 210 => 142 | 206 => 188 | n => n, fun | 9 => 9 | 4 => 4 | 24 => 151 | 3 => 3 | n => n, fun | n => n⟩
theorem nmCut : Go.Proofs.Lays.n103 Tryz.prog nmCut_ren where
  mixed := by kernel_rfl
  f103 := Tryz.func83.trans (congrArg some (by kernel_rfl))
  f206 := Tryz.func188.trans (congrArg some (by kernel_rfl))
  f210 := Tryz.func142.trans (congrArg some (by kernel_rfl))
  t3 := Tryz.underlying3
  a3 := Tryz.isAgg3
  z3 := Tryz.sizeOf3
  v3 := Tryz.zeroValue3
  t4 := Tryz.underlying4
  a4 := Tryz.isAgg4
  z4 := Tryz.sizeOf4
  v4 := Tryz.zeroValue4
  t9 := Tryz.underlying9
  a9 := Tryz.isAgg9
  z9 := Tryz.sizeOf9
  v9 := Tryz.zeroValue9
  t24 := Tryz.underlying151
  a24 := Tryz.isAgg151
  z24 := Tryz.sizeOf151
  v24 := Tryz.zeroValue151
def nmIdx_ren : Go.Shelf.Ren := ⟨fun | 15 => 79 | 20 => 138 | n => n, fun | 9 => 9 | 23 => 146 | 3 => 3 | 4 => 4 | 0 => 0 | 21 => 21 | n => n, fun | n => n⟩
theorem nmIdx : Go.Proofs.LaysGw.n15 Tryz.prog nmIdx_ren where
  mixed := by kernel_rfl
  f15 := Tryz.func79.trans (congrArg some (by kernel_rfl))
  f20 := Tryz.func138.trans (congrArg some (by kernel_rfl))
  t0 := Tryz.underlying0
  a0 := Tryz.isAgg0
  z0 := Tryz.sizeOf0
  v0 := Tryz.zeroValue0
  i0 := by kernel_rfl
  t3 := Tryz.underlying3
  a3 := Tryz.isAgg3
  z3 := Tryz.sizeOf3
  v3 := Tryz.zeroValue3
  i3 := by kernel_rfl
  t4 := Tryz.underlying4
  a4 := Tryz.isAgg4
  z4 := Tryz.sizeOf4
  v4 := Tryz.zeroValue4
  i4 := by kernel_rfl
  t9 := Tryz.underlying9
  a9 := Tryz.isAgg9
  z9 := Tryz.sizeOf9
  v9 := Tryz.zeroValue9
  i9 := by kernel_rfl
  t21 := Tryz.underlying21
  a21 := Tryz.isAgg21
  z21 := Tryz.sizeOf21
  v21 := Tryz.zeroValue21
  i21 := by kernel_rfl
  t23 := Tryz.underlying146
  a23 := Tryz.isAgg146
  z23 := Tryz.sizeOf146
  v23 := Tryz.zeroValue146
  i23 := by kernel_rfl
theorem nmSorts (m : Nat) : AnyZ.SortsIn Tryz.prog nmSorted_ren Fence.wide m :=
  ⟨fun blk off cap ss W hH hblk hsz => callsIn_wide.2 (AnyM.slices_Sort_string nmSortS blk off cap ss W hH hblk hsz),
   fun p cap W => callsIn_wide.2 (AnyM.slices_Sort_string_none nmSortS p cap W)⟩
/-- The names of files, sorted. -/
def nameL (es : FM) : List (List UInt8) := es.map fun e => e.k.data.toList
def namesE (es : FM) : List ByteArray := ((nameL es).mergeSort leB).map fun x => ⟨x.toArray⟩
theorem namesE_of {es fs : FM} (h : (nameL es).Perm (nameL fs)) : namesE es = namesE fs := by
  unfold namesE; rw [mergeSort_of_perm h]
theorem namesE_perm (es : FM) : (namesE es).Perm (es.map (·.k)) := by
  unfold namesE
  have h := (List.mergeSort_perm (nameL es) leB).map (fun x : List UInt8 => (⟨x.toArray⟩ : ByteArray))
  refine h.trans ?_
  unfold nameL
  rw [List.map_map]
  exact List.Perm.of_eq (List.map_congr_left fun e _ => by cases e with | mk k v b => cases k; simp)
theorem namesE_len (es : FM) : (namesE es).length = es.length := by rw [(namesE_perm es).length_eq, List.length_map]
def relK : Value → Option (DataW Unit × List MemPlace) := fun _ => some (.nil, [])
theorem owns_of {w : World} {r c : Nat} {es : FM} (h : w.heap[r]? = some (mapO encS BS.val es c)) (hg : GoodM es c) (hk : ∀ e ∈ es, e.k.size ≤ maxLen) (hn : es.length ≤ 1000000) :
    ∃ D0 : DataW Unit, w.ownsMap Tryz.prog 9 relK r es.length D0 ∧ (strKeys D0).Perm (nameL es) ∧ Maps.size D0 = es.length := by
  have hkey : ∀ e ∈ es, keyOf Tryz.prog 9 (encS e.k) = some (.string e.k.data.toList) := fun e he => by
    simp only [keyOf, Tryz.underlying9, mapKey, encS]
    rw [if_pos (hk e he)]
  have hrd : ∀ e ∈ es, Go.WideElems.rd Tryz.prog 9 relK (entV encS BS.val e) = some (.string e.k.data.toList, .nil) := fun e he => by
    simp only [Go.WideElems.rd, entV, hkey e he, relK, Option.bind_some, Option.map_some]
  have hl : (es.map (entV encS BS.val)).map (Go.WideElems.rg Tryz.prog 9 relK) = es.map fun e => ((.string e.k.data.toList, .nil) : Lit × DataW Unit) := by
    rw [List.map_map]
    exact List.map_congr_left fun e he => by simp only [Function.comp, Go.WideElems.rg, hrd e he, Option.getD_some]
  refine ⟨_, ⟨_, c, h, ⟨by simp only [List.size_toArray, List.length_map]; unfold maxLen; omega, ⟨fun x hx => ?_, ?_, ?_⟩, fun x hx => ?_⟩, by simp, rfl⟩, ?_, ?_⟩
  · obtain ⟨e, he, rfl⟩ := List.mem_map.1 (by simpa using hx)
    exact hg.lt e he
  · have hb2 := hg.born
    simp only [List.map_map]
    have : (es.map ((fun x : MapEntry => x.born) ∘ entV encS BS.val)) = es.map (·.b) := rfl
    rw [this]; exact hb2
  · have hk2 := hg.keys
    simp only [List.map_map]
    have : (es.map ((fun x : MapEntry => x.key) ∘ entV encS BS.val)) = (es.map (·.k)).map encS := by rw [List.map_map]; rfl
    rw [this]
    exact List.Pairwise.map _ (fun a b hab h => hab (by simpa [encS] using h)) hk2
  · obtain ⟨e, he, rfl⟩ := List.mem_map.1 (by simpa using hx)
    exact ⟨_, hrd e he⟩
  · have hp := Go.WideShapes.sorted_perm ((es.map (entV encS BS.val)).map (Go.WideElems.rg Tryz.prog 9 relK))
    have h2 := hp.map (fun p : Lit × DataW Unit => strOf p.1)
    rw [hl, List.map_map] at h2
    simp only [strKeys]
    rw [hl]
    exact h2
  · simp only [Maps.size]
    rw [(Go.WideShapes.sorted_perm _).length_eq]; simp
theorem keys_c {w0 : World} {H : List SA} {r : Nat} : CT Tryz.prog w0 H 82 [.map (some r)] (α := Nat) (fun b => .func (.func 141) #[] #[.pointer (some ⟨b, 0, none⟩)]) (fun b => blk b (.cells #[.map (some r)] 94 (0, 0)) :: H) := fun w hw => by
  refine (callsIn_wide.1 (AnyZ.keys_in nmKeys Fence.wide 5 trivial rfl (some r) w)).mono ?_
  rintro e w' ⟨rfl, rfl⟩
  exact ⟨w.heap.size, rfl, hw.alloc _⟩
set_option maxHeartbeats 1000000 in
theorem sorted_c {w0 : World} {H : List SA} {r b c : Nat} {es : FM} [hm : Mem w0 H r (mapO encS BS.val es c)] [hb : Mem w0 H b (.cells #[.map (some r)] 94 (0, 0))] (hg : GoodM es c) (hk : ∀ e ∈ es, e.k.size ≤ maxLen) (hn : es.length ≤ 1000000) :
    CT Tryz.prog w0 H 81 [.func (.func 141) #[] #[.pointer (some ⟨b, 0, none⟩)]] (α := AC) (fun y => .slice y.a (namesE es).length y.c) (fun y => row (.slice y.a (namesE es).length y.c) 9 1 ((namesE es).map encS) :: H) := fun w hw => by
  obtain ⟨D0, hown, hperm, hsz⟩ := owns_of (hm.get w hw) hg hk hn
  have hbw := hb.get w hw
  have hbl : b < w.heap.size := (Array.getElem?_eq_some_iff.1 hbw).1
  have hcell : w.cell? ⟨b, 0, none⟩ = some (.map (some r)) := by simp [World.cell?, hbw]
  have hseq : SeqGives Fence.wide 2 Tryz.prog 141 #[.pointer (some ⟨b, 0, none⟩)] encStr (fun ss => ss.Perm (strKeys D0)) (Maps.size D0) w :=
    AnyZ.keys_gives (ρ := nmKeys_ren) { nmKeys with } Fence.wide _ trivial rfl (by omega) b r es.length D0 w hbl hcell hown
  refine (callsIn_wide.1 (AnyZ.sorted_in nmSorted Fence.wide 5 trivial trivial trivial trivial rfl (by omega) (nmSorts _) (enters_of Tryz.func140 (by kernel_rfl) rfl) 141 #[.pointer (some ⟨b, 0, none⟩)] trivial (enters_of Tryz.func141 (by kernel_rfl) rfl) _ _ (by rw [hsz]; unfold maxLen; omega) (by rw [hsz]; omega) w hseq)).mono ?_
  rintro e w' ⟨v, ss, rfl, hS, hrow, hnil, hbe⟩
  have hss : ss.mergeSort leB = (nameL es).mergeSort leB := mergeSort_of_perm (hS.trans hperm)
  have hnl : ss.length = (namesE es).length := by rw [(hS.trans hperm).length_eq, namesE_len]; simp [nameL]
  have hxs : (ss.mergeSort leB).map encStr = (namesE es).map encS := by
    rw [hss, namesE, List.map_map]; rfl
  obtain ⟨h1, h2⟩ := hrow
  replace h2 : (v = .slice none 0 0 ∧ ss.length = 0) ∨ ∃ g cap cur, v = .slice (some ⟨g, 0, none⟩) ss.length cap ∧ w.heap.size ≤ g ∧ w'.heap[g]? = some (.cells cur 9 (0, 0)) ∧ ss.length ≤ cap ∧ cap ≤ maxLen ∧ cur.size = cap * 1 ∧ cur.toList.take (ss.length * 1) = (ss.mergeSort leB).map encStr := h2
  rw [hxs] at h2
  rcases h2 with ⟨rfl, h0⟩ | ⟨g, cap, cur, rfl, hge, hgc, q1, q2, q3, q4⟩
  · refine ⟨⟨none, 0⟩, by rw [← hnl, h0], hw.fresh hbe.os hbe.tape hbe.output hbe.size hbe.block ?_ (by simp [row, rowFp]) (by simp [row, rowFp])⟩
    exact ⟨none, 0, 0, by rw [← hnl, h0], by rw [List.length_map, ← hnl, h0], Nat.le_refl _, by unfold maxLen; omega, fun _ => rfl, fun h => absurd rfl h⟩
  · have hgl : g < w'.heap.size := (Array.getElem?_eq_some_iff.1 hgc).1
    refine ⟨⟨some ⟨g, 0, none⟩, cap⟩, by rw [hnl], hw.fresh hbe.os hbe.tape hbe.output hbe.size hbe.block ?_ ?_ ?_⟩
    · exact ⟨some ⟨g, 0, none⟩, (namesE es).length, cap, rfl, by simp, by omega, q2, (fun h => by cases h), fun _ => ⟨g, cur, rfl, hgc, q3, by rw [← hnl]; exact q4⟩⟩
    · by_cases h0 : cap = 0 <;> simp [row, rowFp, h0]
    · intro b' hb'
      by_cases h0 : cap = 0
      · simp [row, rowFp, h0] at hb'
      · obtain rfl : b' = g := by simpa [row, rowFp, h0] using hb'
        exact ⟨hge, hgl⟩
def fineF (r : Nat) : Bool := decide (r < 97) || decide (122 < r)
def fineB (s : ByteArray) : Bool := decide (1 ≤ s.size) && (decide (s.size ≤ 8) && decide (Lib.idxFunc fineF true s < 0))
theorem fineP (w : World) : PredAt Tryz.prog 80 #[] Go.Proofs.encR fineF w := fun W r _ => by
  unfold FnGives fineF
  by_cases h1 : r < 97 <;> by_cases h2 : 122 < r
  all_goals
    have z1 : (r : Int) < 97 ↔ r < 97 := by omega
    have z2 : (122 : Int) < (r : Int) ↔ 122 < r := by omega
    go_enter Tryz.func80, Tryz.ntmps80
    go_wp2
    all_goals first | (exfalso; omega) | (go_ret; exact ⟨by simp [h1, h2], 0, rfl⟩)
theorem St.later {w0 w w' : World} {H : List SA} (hw : St w0 H w) (hb : Below w.heap.size w w') : St w0 H w' :=
  (hw.fresh (x' := pu True) hb.os hb.tape hb.output hb.size hb.block trivial (by simp [pu]) (by simp [pu])).tail
theorem idx_c {w0 : World} {H : List SA} {s : ByteArray} : CT Tryz.prog w0 H 79 [.string s, .func (.func 80) #[] #[]] (α := Unit) (fun _ => .int .i64 (Lib.idxFunc fineF true s)) (fun _ => H) := fun w hw => by
  refine (Any.strings_IndexFunc nmIdx 80 #[] (enters_of Tryz.func80 (by kernel_rfl) rfl) fineF s w (fineP w)).mono ?_
  rintro e w' ⟨rfl, hb⟩
  exact ⟨(), rfl, St.later hw hb⟩
theorem itoa_c {w0 : World} {H : List SA} {i : Nat} (hi : i < 100) : CT Tryz.prog w0 H 85 [.int .i64 (i : Int)] (α := Unit) (fun _ => .string ⟨(Lib.decDigits i).toArray⟩) (fun _ => H) := fun w hw => by
  refine (Any.strconv_Itoa_small nmItoa i hi w).mono ?_
  rintro e w' ⟨rfl, rfl⟩
  exact ⟨(), rfl, hw⟩
theorem atoi_c {w0 : World} {H : List SA} {s : ByteArray} (hs : s.size ≤ 1000000) {v : Int} (h : Lib.atoiAll s.data.toList = .ok v) : CT Tryz.prog w0 H 84 [.string s] (α := Unit) (fun _ => .tuple #[.int .i64 v, .nilIface]) (fun _ => H) := fun w hw => by
  refine (Any.strconv_Atoi_ok nmAtoi s (by omega) v h w).mono ?_
  rintro e w' ⟨rfl, rfl | ⟨t, rfl⟩⟩
  · exact ⟨(), rfl, hw⟩
  · exact ⟨(), rfl, St.later hw (Lib.bytesWorld_below w _ t)⟩
theorem cut_c {w0 : World} {H : List SA} {s p : ByteArray} : CT Tryz.prog w0 H 83 [.string s, .string p] (α := Unit) (fun _ => .tuple #[.string ⟨(Lib.trimPrefix s.data.toList p.data.toList).toArray⟩, .bool (Lib.hasPrefix s.data.toList p.data.toList)]) (fun _ => H) := fun w hw => by
  refine (Any.strings_CutPrefix nmCut s p w).mono ?_
  rintro e w' ⟨rfl, rfl⟩
  exact ⟨(), rfl, hw⟩
theorem sort0_c {w0 : World} {H : List SA} {a : Option Addr} {c : Nat} : CT Tryz.prog w0 H 37 [.slice a 0 c] (α := Unit) (fun _ => .tuple #[]) (fun _ => H) := fun w hw => by
  refine (AnyM.slices_Sort_int_none nmSortI a c w).mono ?_
  rintro e w' ⟨rfl, rfl⟩
  exact ⟨(), rfl, hw⟩
attribute [local irreducible] namesE
set_option maxHeartbeats 1000000 in
theorem dnames_c {w0 : World} {H : List SA} {p : Nat} {s : DS} {N M : Nat} (hok : s.Ok N M) (hN : N ≤ 1000000) (hkz : ∀ e ∈ s.e2, e.k.size ≤ maxLen) :
    CT Tryz.prog w0 (DS.H p s H) 35 [.pointer (some ⟨p, 0, none⟩)] (α := AC) (fun y => .slice y.a (namesE s.e2).length y.c) (fun y => row (.slice y.a (namesE s.e2).length y.c) 9 1 ((namesE s.e2).map encS) :: DS.H p s H) := by
  refine CT_intro Tryz.func35 rfl Tryz.ntmps35 rfl ?_
  refine T_seq ?_
  refine T_region ?_
  refine TL_q (Qt_assign (.slice _ _ _) rfl) rfl ?_
  refine TL_nil ?_
  refine X_then ?_
  refine T_seq ?_
  refine T_seq ?_
  refine T_region ?_
  refine TL_q (Qt_move (.pointer _) rfl) rfl ?_
  refine TL_q (Qt_ptr_nil rfl rfl Tryz.underlying24) rfl ?_
  refine TL_nil ?_
  refine X_then ?_
  refine T_cond rfl (fun h4 => ?_) (fun h4 => ?_)
  ·
    have p4 := h4
    try simp only [decide_eq_true_eq, decide_eq_false_iff_not, Bool.not_eq_true', Bool.not_eq_false', Option.isNone_iff_eq_none, ne_eq, Decidable.not_not, Int.not_lt, Int.not_le] at p4
    cases h4
  ·
    have p4 := h4
    try simp only [decide_eq_true_eq, decide_eq_false_iff_not, Bool.not_eq_true', Bool.not_eq_false', Option.isNone_iff_eq_none, ne_eq, Decidable.not_not, Int.not_lt, Int.not_le] at p4
    refine T_skip ?_
    refine X_then ?_
    refine T_seq ?_
    refine T_region ?_
    refine TL_q (Qt_move (.pointer _) rfl) rfl ?_
    refine TL_q (Qt_nilCheck rfl) rfl ?_
    refine TL_q (Qt_fieldAddr 2 rfl rfl) rfl ?_
    refine TL_q (Qt_load1 rfl) rfl ?_
    refine TL_e rfl (Ef_call (keys_c (r := s.r2)) rfl (fun x9 => ?_))
    refine TL_e rfl (Ef_call (sorted_c (r := s.r2) (b := x9) (es := s.e2) (c := s.c2) hok.good2 hkz (by have := hok.n2; omega)) rfl (fun x10 => ?_))
    refine TL_q (Qt_assign (.slice _ _ _) rfl) rfl ?_
    refine TL_nil ?_
    refine X_then ?_
    refine T_ret ?_
    exact X_ret x10 [_] Tryz.results35 ⟨rfl, trivial⟩ rfl (Subs.st inferInstance)
end Go.Proofs.YtgfbdcjamalhhaaGreatDoor

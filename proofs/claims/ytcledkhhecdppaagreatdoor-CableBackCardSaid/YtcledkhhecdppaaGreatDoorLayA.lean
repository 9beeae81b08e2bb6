/- Library functions at this program: part of the proof. -/
import Derived.Test.YtcledkhhecdppaaGreatDoorProg
import Derived.Test.YtcledkhhecdppaaGreatDoorSxC
import Derived.Shelf.SlSortCmp.WholeK
import Derived.Shelf.SlSortCmp.NoneTotal
import Derived.Shelf.SlicesG.Cmp
import Derived.Shelf.SlicesE.Clone
import Derived.Shelf.Spec.SlicesGrow
import Derived.Ground.SlsfProg
import Derived.Ground.SlgcProg
import Derived.Ground.SlgnProg
import Derived.Ground.Names8Prog
import Derived.Shelf.LaysC
import Derived.Shelf.Strconv.AtoiAll
import Derived.Shelf.Strconv.ErrVarAll
import Derived.Ground.Names2Prog
import Derived.Ground.NamesProg
import Derived.WalkKit
import Derived.Laws.CopyRow
import Derived.Laws.OwnMore
import Derived.Deep.AppendSrc
import Derived.Lib.AppendZerosOnto
import Derived.Lib.Overlaps
import Derived.Lib.Walk
import Derived.Shelf.RegionOpenPlain
import Derived.Laws.Externs
import Derived.KernelRfl
set_option linter.unusedSimpArgs false
set_option linter.unusedVariables false
namespace Go.Proofs
open Go.Shelf
def Tryz.sortO_ren : Go.Shelf.Ren := ⟨fun | 6 => 89 | 15 => 145 | 14 => 144 | 28 => 183 | 29 => 184 | 20 => 175 | 21 => 176 | 22 => 177 | 23 => 178 | 24 => 179 | 25 => 180 | 26 => 181 | 27 => 182 | 46 => 204 | 47 => 205 | 48 => 206 | 49 => 207 | 50 => 208 | 57 => 233 | n => n, fun | 22 => 39 | 24 => 163 | 25 => 178 | 3 => 3 | 39 => 245 | 0 => 0 | 53 => 276 | 55 => 278 | 4 => 4 | 46 => 270 | 45 => 269 | 50 => 199 | 5 => 5 | 9 => 9 | 66 => 297 | 70 => 301 | 76 => 317 | 77 => 86 | n => n, fun | n => n⟩
theorem Tryz.sortO : Go.Proofs.SlLaysF0.n6 Tryz.prog Tryz.sortO_ren := {
 mixed := by kernel_rfl
 f6 := ⟨Tryz.f89.name, by decide, Tryz.func89.trans (congrArg some (by kernel_rfl))⟩
 f14 := ⟨Tryz.f144.name, by decide, Tryz.func144.trans (congrArg some (by kernel_rfl))⟩
 f15 := Tryz.func145.trans (congrArg some (by kernel_rfl))
 f20 := ⟨Tryz.f175.name, by decide, Tryz.func175.trans (congrArg some (by kernel_rfl))⟩
 f21 := ⟨Tryz.f176.name, by decide, Tryz.func176.trans (congrArg some (by kernel_rfl))⟩
 f22 := ⟨Tryz.f177.name, by decide, Tryz.func177.trans (congrArg some (by kernel_rfl))⟩
 f23 := ⟨Tryz.f178.name, by decide, Tryz.func178.trans (congrArg some (by kernel_rfl))⟩
 f24 := ⟨Tryz.f179.name, by decide, Tryz.func179.trans (congrArg some (by kernel_rfl))⟩
 f25 := ⟨Tryz.f180.name, by decide, Tryz.func180.trans (congrArg some (by kernel_rfl))⟩
 f26 := ⟨Tryz.f181.name, by decide, Tryz.func181.trans (congrArg some (by kernel_rfl))⟩
 f27 := ⟨Tryz.f182.name, by decide, Tryz.func182.trans (congrArg some (by kernel_rfl))⟩
 f28 := Tryz.func183.trans (congrArg some (by kernel_rfl))
 f29 := Tryz.func184.trans (congrArg some (by kernel_rfl))
 f46 := ⟨Tryz.f204.name, by decide, Tryz.func204.trans (congrArg some (by kernel_rfl))⟩
 f47 := Tryz.func205.trans (congrArg some (by kernel_rfl))
 f48 := Tryz.func206.trans (congrArg some (by kernel_rfl))
 f49 := ⟨Tryz.f207.name, by decide, Tryz.func207.trans (congrArg some (by kernel_rfl))⟩
 f50 := ⟨Tryz.f208.name, by decide, Tryz.func208.trans (congrArg some (by kernel_rfl))⟩
 f57 := ⟨Tryz.f233.name, by decide, Tryz.func233.trans (congrArg some (by kernel_rfl))⟩
 t0 := Tryz.underlying0
 a0 := Tryz.isAgg0
 z0 := Tryz.sizeOf0
 v0 := Tryz.zeroValue0
 t3 := Tryz.underlying3
 a3 := Tryz.isAgg3
 z3 := Tryz.sizeOf3
 v3 := Tryz.zeroValue3
 t4 := Tryz.underlying4
 a4 := Tryz.isAgg4
 z4 := Tryz.sizeOf4
 v4 := Tryz.zeroValue4
 t5 := Tryz.underlying5
 a5 := Tryz.isAgg5
 z5 := Tryz.sizeOf5
 v5 := Tryz.zeroValue5
 t9 := Tryz.underlying9
 a9 := Tryz.isAgg9
 z9 := Tryz.sizeOf9
 v9 := Tryz.zeroValue9
 t22 := Tryz.underlying39
 a22 := Tryz.isAgg39
 z22 := Tryz.sizeOf39
 v22 := Tryz.zeroValue39
 t25 := Tryz.underlying178
 a25 := Tryz.isAgg178
 z25 := Tryz.sizeOf178
 v25 := Tryz.zeroValue178
 t39 := Tryz.underlying245
 a39 := Tryz.isAgg245
 z39 := Tryz.sizeOf245
 v39 := Tryz.zeroValue245
 t45 := Tryz.underlying269
 a45 := Tryz.isAgg269
 z45 := Tryz.sizeOf269
 v45 := Tryz.zeroValue269
 t46 := Tryz.underlying270
 a46 := Tryz.isAgg270
 z46 := Tryz.sizeOf270
 v46 := Tryz.zeroValue270
 t50 := Tryz.underlying199
 a50 := Tryz.isAgg199
 z50 := Tryz.sizeOf199
 v50 := Tryz.zeroValue199
 t53 := Tryz.underlying276
 a53 := Tryz.isAgg276
 z53 := Tryz.sizeOf276
 v53 := Tryz.zeroValue276
 t55 := Tryz.underlying278
 a55 := Tryz.isAgg278
 z55 := Tryz.sizeOf278
 v55 := Tryz.zeroValue278
 t66 := Tryz.underlying297
 a66 := Tryz.isAgg297
 z66 := Tryz.sizeOf297
 v66 := Tryz.zeroValue297
 t70 := Tryz.underlying301
 a70 := Tryz.isAgg301
 z70 := Tryz.sizeOf301
 v70 := Tryz.zeroValue301
 t76 := Tryz.underlying317
 a76 := Tryz.isAgg317
 z76 := Tryz.sizeOf317
 v76 := Tryz.zeroValue317
 t77 := Tryz.underlying86
 a77 := Tryz.isAgg86
 z77 := Tryz.sizeOf86
 v77 := Tryz.zeroValue86 }
def Tryz.sortA_ren : Go.Shelf.Ren := ⟨fun | 6 => 149 | 15 => 145 | 14 => 186 | 28 => 183 | 29 => 184 | 20 => 209 | 21 => 210 | 22 => 211 | 23 => 212 | 24 => 213 | 25 => 214 | 26 => 215 | 27 => 216 | 46 => 234 | 47 => 205 | 48 => 206 | 49 => 235 | 50 => 236 | 57 => 253 | n => n, fun | 22 => 42 | 24 => 107 | 25 => 250 | 3 => 3 | 39 => 245 | 0 => 0 | 53 => 276 | 55 => 278 | 4 => 4 | 46 => 270 | 45 => 269 | 50 => 199 | 5 => 5 | 9 => 9 | 66 => 297 | 70 => 301 | 76 => 317 | 77 => 86 | n => n, fun | n => n⟩
theorem Tryz.sortA : Go.Proofs.SlLaysF0.n6 Tryz.prog Tryz.sortA_ren := {
 mixed := by kernel_rfl
 f6 := ⟨Tryz.f149.name, by decide, Tryz.func149.trans (congrArg some (by kernel_rfl))⟩
 f14 := ⟨Tryz.f186.name, by decide, Tryz.func186.trans (congrArg some (by kernel_rfl))⟩
 f15 := Tryz.func145.trans (congrArg some (by kernel_rfl))
 f20 := ⟨Tryz.f209.name, by decide, Tryz.func209.trans (congrArg some (by kernel_rfl))⟩
 f21 := ⟨Tryz.f210.name, by decide, Tryz.func210.trans (congrArg some (by kernel_rfl))⟩
 f22 := ⟨Tryz.f211.name, by decide, Tryz.func211.trans (congrArg some (by kernel_rfl))⟩
 f23 := ⟨Tryz.f212.name, by decide, Tryz.func212.trans (congrArg some (by kernel_rfl))⟩
 f24 := ⟨Tryz.f213.name, by decide, Tryz.func213.trans (congrArg some (by kernel_rfl))⟩
 f25 := ⟨Tryz.f214.name, by decide, Tryz.func214.trans (congrArg some (by kernel_rfl))⟩
 f26 := ⟨Tryz.f215.name, by decide, Tryz.func215.trans (congrArg some (by kernel_rfl))⟩
 f27 := ⟨Tryz.f216.name, by decide, Tryz.func216.trans (congrArg some (by kernel_rfl))⟩
 f28 := Tryz.func183.trans (congrArg some (by kernel_rfl))
 f29 := Tryz.func184.trans (congrArg some (by kernel_rfl))
 f46 := ⟨Tryz.f234.name, by decide, Tryz.func234.trans (congrArg some (by kernel_rfl))⟩
 f47 := Tryz.func205.trans (congrArg some (by kernel_rfl))
 f48 := Tryz.func206.trans (congrArg some (by kernel_rfl))
 f49 := ⟨Tryz.f235.name, by decide, Tryz.func235.trans (congrArg some (by kernel_rfl))⟩
 f50 := ⟨Tryz.f236.name, by decide, Tryz.func236.trans (congrArg some (by kernel_rfl))⟩
 f57 := ⟨Tryz.f253.name, by decide, Tryz.func253.trans (congrArg some (by kernel_rfl))⟩
 t0 := Tryz.underlying0
 a0 := Tryz.isAgg0
 z0 := Tryz.sizeOf0
 v0 := Tryz.zeroValue0
 t3 := Tryz.underlying3
 a3 := Tryz.isAgg3
 z3 := Tryz.sizeOf3
 v3 := Tryz.zeroValue3
 t4 := Tryz.underlying4
 a4 := Tryz.isAgg4
 z4 := Tryz.sizeOf4
 v4 := Tryz.zeroValue4
 t5 := Tryz.underlying5
 a5 := Tryz.isAgg5
 z5 := Tryz.sizeOf5
 v5 := Tryz.zeroValue5
 t9 := Tryz.underlying9
 a9 := Tryz.isAgg9
 z9 := Tryz.sizeOf9
 v9 := Tryz.zeroValue9
 t22 := Tryz.underlying42
 a22 := Tryz.isAgg42
 z22 := Tryz.sizeOf42
 v22 := Tryz.zeroValue42
 t25 := Tryz.underlying250
 a25 := Tryz.isAgg250
 z25 := Tryz.sizeOf250
 v25 := Tryz.zeroValue250
 t39 := Tryz.underlying245
 a39 := Tryz.isAgg245
 z39 := Tryz.sizeOf245
 v39 := Tryz.zeroValue245
 t45 := Tryz.underlying269
 a45 := Tryz.isAgg269
 z45 := Tryz.sizeOf269
 v45 := Tryz.zeroValue269
 t46 := Tryz.underlying270
 a46 := Tryz.isAgg270
 z46 := Tryz.sizeOf270
 v46 := Tryz.zeroValue270
 t50 := Tryz.underlying199
 a50 := Tryz.isAgg199
 z50 := Tryz.sizeOf199
 v50 := Tryz.zeroValue199
 t53 := Tryz.underlying276
 a53 := Tryz.isAgg276
 z53 := Tryz.sizeOf276
 v53 := Tryz.zeroValue276
 t55 := Tryz.underlying278
 a55 := Tryz.isAgg278
 z55 := Tryz.sizeOf278
 v55 := Tryz.zeroValue278
 t66 := Tryz.underlying297
 a66 := Tryz.isAgg297
 z66 := Tryz.sizeOf297
 v66 := Tryz.zeroValue297
 t70 := Tryz.underlying301
 a70 := Tryz.isAgg301
 z70 := Tryz.sizeOf301
 v70 := Tryz.zeroValue301
 t76 := Tryz.underlying317
 a76 := Tryz.isAgg317
 z76 := Tryz.sizeOf317
 v76 := Tryz.zeroValue317
 t77 := Tryz.underlying86
 a77 := Tryz.isAgg86
 z77 := Tryz.sizeOf86
 v77 := Tryz.zeroValue86 }
def Tryz.growO_ren : Go.Shelf.Ren := ⟨fun | 4 => 203 | n => n, fun | 22 => 171 | 25 => 170 | 3 => 3 | 4 => 4 | 9 => 9 | 20 => 20 | 0 => 0 | n => n, fun | n => n⟩
theorem Tryz.growO : Go.Proofs.Lays8.n4 Tryz.prog Tryz.growO_ren := {
 mixed := by kernel_rfl
 f4 := ⟨Tryz.f203.name, by decide, Tryz.func203.trans (congrArg some (by kernel_rfl))⟩
 t0 := Tryz.underlying0
 a0 := Tryz.isAgg0
 z0 := Tryz.sizeOf0
 v0 := Tryz.zeroValue0
 t3 := Tryz.underlying3
 a3 := Tryz.isAgg3
 z3 := Tryz.sizeOf3
 v3 := Tryz.zeroValue3
 t4 := Tryz.underlying4
 a4 := Tryz.isAgg4
 z4 := Tryz.sizeOf4
 v4 := Tryz.zeroValue4
 t9 := Tryz.underlying9
 a9 := Tryz.isAgg9
 z9 := Tryz.sizeOf9
 v9 := Tryz.zeroValue9
 t20 := Tryz.underlying20
 a20 := Tryz.isAgg20
 z20 := Tryz.sizeOf20
 v20 := Tryz.zeroValue20
 t22 := Tryz.underlying171
 a22 := Tryz.isAgg171
 z22 := Tryz.sizeOf171
 v22 := Tryz.zeroValue171 }
end Go.Proofs
namespace Go.Proofs
open Go.Shelf
def Tryz.laysAtoi_ren : Go.Shelf.Ren := ⟨fun | 172 => 194 | 244 => 224 | 245 => 225 | 247 => 243 | 279 => 244 | 280 => 245 | 281 => 246 | 282 => 247 | 287 => 256 | 316 => 257 | 171 => 134 | 205 => 258 | 321 => 260 | 322 => 261 | 243 => 163 | 246 => 193 | 283 => 220 | 284 => 221 | 285 => 222 | 286 => 223 | 129 => 184 | 317 => 239 | 318 => 240 | 319 => 241 | 320 => 242 | 337 => 254 | 338 => 255 | n => n, fun | 9 => 9 | 3 => 3 | 75 => 286 | 76 => 287 | 4 => 4 | 5 => 5 | 167 => 326 | 37 => 264 | 0 => 0 | 85 => 327 | 2 => 2 | 168 => 329 | 53 => 278 | 175 => 333 | 46 => 245 | 210 => 337 | 127 => 308 | 145 => 350 | 143 => 348 | 21 => 21 | 171 => 309 | 173 => 311 | 212 => 324 | 51 => 276 | 20 => 20 | 213 => 325 | 232 => 345 | 233 => 346 | 80 => 289 | n => n, fun | 15 => 2 | 16 => 3 | 17 => 0 | 18 => 6 | 19 => 7 | n => n⟩
theorem Tryz.laysAtoi : Go.Proofs.LaysC.n172 Tryz.prog Tryz.laysAtoi_ren := {
 mixed := by kernel_rfl
 f129 := Tryz.func184.trans (congrArg some (by kernel_rfl))
 f171 := Tryz.func134.trans (congrArg some (by kernel_rfl))
 f172 := Tryz.func194.trans (congrArg some (by kernel_rfl))
 f205 := Tryz.func258.trans (congrArg some (by kernel_rfl))
 f243 := Tryz.func163.trans (congrArg some (by kernel_rfl))
 f244 := Tryz.func224.trans (congrArg some (by kernel_rfl))
 f245 := Tryz.func225.trans (congrArg some (by kernel_rfl))
 f246 := Tryz.func193.trans (congrArg some (by kernel_rfl))
 f247 := Tryz.func243.trans (congrArg some (by kernel_rfl))
 f279 := Tryz.func244.trans (congrArg some (by kernel_rfl))
 f280 := Tryz.func245.trans (congrArg some (by kernel_rfl))
 f281 := Tryz.func246.trans (congrArg some (by kernel_rfl))
 f282 := Tryz.func247.trans (congrArg some (by kernel_rfl))
 f283 := Tryz.func220.trans (congrArg some (by kernel_rfl))
 f284 := Tryz.func221.trans (congrArg some (by kernel_rfl))
 f285 := Tryz.func222.trans (congrArg some (by kernel_rfl))
 f286 := Tryz.func223.trans (congrArg some (by kernel_rfl))
 f287 := Tryz.func256.trans (congrArg some (by kernel_rfl))
 f316 := Tryz.func257.trans (congrArg some (by kernel_rfl))
 f317 := Tryz.func239.trans (congrArg some (by kernel_rfl))
 f318 := Tryz.func240.trans (congrArg some (by kernel_rfl))
 f319 := Tryz.func241.trans (congrArg some (by kernel_rfl))
 f320 := Tryz.func242.trans (congrArg some (by kernel_rfl))
 f321 := Tryz.func260.trans (congrArg some (by kernel_rfl))
 f322 := Tryz.func261.trans (congrArg some (by kernel_rfl))
 f337 := Tryz.func254.trans (congrArg some (by kernel_rfl))
 f338 := Tryz.func255.trans (congrArg some (by kernel_rfl))
 t0 := Tryz.underlying0
 a0 := Tryz.isAgg0
 z0 := Tryz.sizeOf0
 v0 := Tryz.zeroValue0
 t2 := Tryz.underlying2
 a2 := Tryz.isAgg2
 z2 := Tryz.sizeOf2
 v2 := Tryz.zeroValue2
 t3 := Tryz.underlying3
 a3 := Tryz.isAgg3
 z3 := Tryz.sizeOf3
 v3 := Tryz.zeroValue3
 t4 := Tryz.underlying4
 a4 := Tryz.isAgg4
 z4 := Tryz.sizeOf4
 v4 := Tryz.zeroValue4
 t5 := Tryz.underlying5
 a5 := Tryz.isAgg5
 z5 := Tryz.sizeOf5
 v5 := Tryz.zeroValue5
 t9 := Tryz.underlying9
 a9 := Tryz.isAgg9
 z9 := Tryz.sizeOf9
 v9 := Tryz.zeroValue9
 t20 := Tryz.underlying20
 a20 := Tryz.isAgg20
 z20 := Tryz.sizeOf20
 v20 := Tryz.zeroValue20
 t21 := Tryz.underlying21
 a21 := Tryz.isAgg21
 z21 := Tryz.sizeOf21
 v21 := Tryz.zeroValue21
 t37 := Tryz.underlying264
 a37 := Tryz.isAgg264
 z37 := Tryz.sizeOf264
 v37 := Tryz.zeroValue264
 t46 := Tryz.underlying245
 a46 := Tryz.isAgg245
 z46 := Tryz.sizeOf245
 v46 := Tryz.zeroValue245
 t51 := Tryz.underlying276
 a51 := Tryz.isAgg276
 z51 := Tryz.sizeOf276
 v51 := Tryz.zeroValue276
 t53 := Tryz.underlying278
 a53 := Tryz.isAgg278
 z53 := Tryz.sizeOf278
 v53 := Tryz.zeroValue278
 t75 := Tryz.underlying286
 a75 := Tryz.isAgg286
 z75 := Tryz.sizeOf286
 v75 := Tryz.zeroValue286
 t76 := Tryz.underlying287
 a76 := Tryz.isAgg287
 z76 := Tryz.sizeOf287
 v76 := Tryz.zeroValue287
 t85 := Tryz.underlying327
 a85 := Tryz.isAgg327
 z85 := Tryz.sizeOf327
 v85 := Tryz.zeroValue327
 t127 := Tryz.underlying308
 a127 := Tryz.isAgg308
 z127 := Tryz.sizeOf308
 v127 := Tryz.zeroValue308
 t143 := Tryz.underlying348
 a143 := Tryz.isAgg348
 z143 := Tryz.sizeOf348
 v143 := Tryz.zeroValue348
 t145 := Tryz.underlying350
 a145 := Tryz.isAgg350
 z145 := Tryz.sizeOf350
 v145 := Tryz.zeroValue350
 t167 := Tryz.underlying326
 a167 := Tryz.isAgg326
 z167 := Tryz.sizeOf326
 v167 := Tryz.zeroValue326
 t168 := Tryz.underlying329
 a168 := Tryz.isAgg329
 z168 := Tryz.sizeOf329
 v168 := Tryz.zeroValue329
 t171 := Tryz.underlying309
 a171 := Tryz.isAgg309
 z171 := Tryz.sizeOf309
 v171 := Tryz.zeroValue309
 t173 := Tryz.underlying311
 a173 := Tryz.isAgg311
 z173 := Tryz.sizeOf311
 v173 := Tryz.zeroValue311
 t175 := Tryz.underlying333
 a175 := Tryz.isAgg333
 z175 := Tryz.sizeOf333
 v175 := Tryz.zeroValue333
 t210 := Tryz.underlying337
 a210 := Tryz.isAgg337
 z210 := Tryz.sizeOf337
 v210 := Tryz.zeroValue337
 t212 := Tryz.underlying324
 a212 := Tryz.isAgg324
 z212 := Tryz.sizeOf324
 v212 := Tryz.zeroValue324
 t213 := Tryz.underlying325
 a213 := Tryz.isAgg325
 z213 := Tryz.sizeOf325
 t232 := Tryz.underlying345
 a232 := Tryz.isAgg345
 z232 := Tryz.sizeOf345
 v232 := Tryz.zeroValue345
 t233 := Tryz.underlying346
 a233 := Tryz.isAgg346
 z233 := Tryz.sizeOf346
 v233 := Tryz.zeroValue346
 g15 := by kernel_rfl
 g16 := by kernel_rfl
 g17 := by kernel_rfl
 g18 := by kernel_rfl
 g19 := by kernel_rfl
 t80 := Tryz.underlying289
 a80 := Tryz.isAgg289
 z80 := Tryz.sizeOf289
 v80 := Tryz.zeroValue289
 i0 := by kernel_rfl
 i2 := by kernel_rfl
 i3 := by kernel_rfl
 i4 := by kernel_rfl
 i5 := by kernel_rfl
 i9 := by kernel_rfl
 i20 := by kernel_rfl
 i21 := by kernel_rfl
 i37 := by kernel_rfl
 i46 := by kernel_rfl
 i51 := by kernel_rfl
 i53 := by kernel_rfl
 i75 := by kernel_rfl
 i76 := by kernel_rfl
 i80 := by kernel_rfl
 i85 := by kernel_rfl
 i127 := by kernel_rfl
 i143 := by kernel_rfl
 i145 := by kernel_rfl
 i167 := by kernel_rfl
 i168 := by kernel_rfl
 i171 := by kernel_rfl
 i173 := by kernel_rfl
 i175 := by kernel_rfl
 i210 := by kernel_rfl
 i212 := by kernel_rfl
 i232 := by kernel_rfl
 i233 := by kernel_rfl
 m15 := by kernel_rfl
 m16 := by kernel_rfl
 m17 := by kernel_rfl
 m18 := by kernel_rfl
 m19 := by kernel_rfl
 c0 := by kernel_rfl
 c2 := by kernel_rfl
 c3 := by kernel_rfl
 c4 := by kernel_rfl
 c5 := by kernel_rfl
 c9 := by kernel_rfl
 c20 := by kernel_rfl
 c21 := by kernel_rfl
 c37 := by kernel_rfl
 c46 := by kernel_rfl
 c51 := by kernel_rfl
 c53 := by kernel_rfl
 c75 := by kernel_rfl
 c76 := by kernel_rfl
 c80 := by kernel_rfl
 c85 := by kernel_rfl
 c127 := by kernel_rfl
 c143 := by kernel_rfl
 c145 := by kernel_rfl
 c167 := by kernel_rfl
 c168 := by kernel_rfl
 c171 := by kernel_rfl
 c173 := by kernel_rfl
 c175 := by kernel_rfl
 c210 := by kernel_rfl
 c212 := by kernel_rfl
 c213 := by kernel_rfl
 c232 := by kernel_rfl
 c233 := by kernel_rfl }
end Go.Proofs
namespace Go.Proofs
open Go.Shelf Go.RowKit Go.Lib Go.Sort
theorem Tryz.info170_is : ∃ i z, Tryz.prog.info? 170 = some i ∧ i.zero = some z ∧ i.size = 5 ∧ i.bytes = 40 ∧ z.cells.size = 5 := by
 have h1 : (Tryz.prog.info? 170).map (fun i => (i.size, i.bytes, i.zero.map fun z => z.cells.size)) = some (5, 40, some 5) := by kernel_rfl
 obtain ⟨i, hi, he⟩ := Option.map_eq_some_iff.1 h1
 cases hz : i.zero with
 | none => rw [hz] at he; simp at he
 | some z =>
  rw [hz] at he
  simp at he
  exact ⟨i, z, hi, hz, he.1, he.2.1, he.2.2⟩
theorem Tryz.grow203 (n : Nat) (w : World) (h0 : 0 < n) (h1 : n ≤ 1000000) : Calls Tryz.prog 203 #[.slice none 0 0, .int .i64 n] w fun e w' =>
      ∃ (cap : Nat) (cur : Array Value), e = .returned (.slice (some ⟨w.heap.size, 0, none⟩) 0 cap) ∧ w' = w.drew.alloc (.cells cur 170) ∧ cur.size = cap * 5 ∧ cap ≤ maxLen := by
  obtain ⟨i, z, hi, hz, h2, h3, h4⟩ := Tryz.info170_is
  refine (Any8.slices_Grow_grow Tryz.growO i z hi hz (by omega) none 0 0 n [] w (Nat.le_refl _) (by omega) (by rw [h3]; omega) (by omega) (by simp) (fun _ => rfl) (fun a ha => by cases ha)).mono ?_
  rintro e w' ⟨rfl, rfl⟩
  have hge := grownCap_ge w (0 + n) 0 170
  refine ⟨_, _, rfl, rfl, ?_, grownCap_le_maxLen w (0 + n) 0 170 (by unfold maxLen; omega)⟩
  have hz' : ∀ m, (Builtin.zeroCells z.cells m).size = m * 5 := fun m => by simp [Builtin.zeroCells, h4]
  simp only [Array.size_append, hz', List.size_toArray, List.length_nil, Nat.zero_add, Nat.sub_zero]
  show n * 5 + (grownCap w n 0 170 - n) * 5 = grownCap w n 0 170 * 5
  rw [Nat.zero_add] at hge
  omega
theorem Tryz.grow203_none (w : World) : Calls Tryz.prog 203 #[.slice none 0 0, .int .i64 0] w fun e w' => e = .returned (.slice none 0 0) ∧ w' = w :=
 Any8.slices_Grow_room Tryz.growO none 0 0 0 w (by omega) (by omega) (by omega) (by omega)
end Go.Proofs
namespace Go.Proofs
open Go.Shelf Go.RowKit Go.Lib
end Go.Proofs
namespace Go.Proofs
open Go.RowKit Go.Lib
variable {P : Program}
theorem run_copy_row_k (w : World) (dT sT ty elem : TypeId) (k g o dLen dCap : Nat) (a : Addr) (sLen sCap : Nat) (cur : Array Value) (t : TypeId) (cs : List Value)
  (hu : P.underlying dT = some (.slice elem)) (hs : (P.info? elem).map (·.size) = some k)
  (hg : w.heap[g]? = some (.cells cur t (0, 0))) (hn : cs.length = Nat.min sLen dLen * k)
  (hsrc : ∀ j v, cs[j]? = some v → w.cell? (a.add j) = some v) (hfit : o + cs.length ≤ cur.size) (h1 : ∀ v ∈ cs, v.oneCell' = true) :
  (Builtin.copy_ #[dT, sT] ty #[.slice (some ⟨g, o, none⟩) dLen dCap, .slice (some a) sLen sCap]).run P w =
   .ok (goInt (Nat.min sLen dLen)) (w.setRow g (cur.toList.take o ++ cs ++ cur.toList.drop (o + cs.length)).toArray) := by
 have hl := run_loadCells_list (P := P) w a cs hsrc
 have hst := run_storeCells_at P g o t cs 0 cur w hg (by simpa using hfit) h1
 cases hq : P.info? elem with
 | none => simp [hq] at hs
 | some i =>
  have hi : i.size = k := by simpa [hq] using hs
  simp [Builtin.copy_, run_underlying hu, Builtin.lenOf, Builtin.firstCells, sizeOf, typeInfo, hq, hi, ← hn, hl, hst]
theorem wp_copy_row (w : World) {o : Oper} {a : Act} {K : Act → World → Prop} {Q : Exit → Act → World → Prop} (d s : Operand) (t t' : TypeId)
  (ho : o.op = .call { callee := .builtin .copy, args := #[d, s], argTypes := #[t, t'] }) (v u : Value) (hd : a.eval d = v) (hs : a.eval s = u) {v' : Value} {w' : World}
  (hr : (Builtin.copy_ #[t, t'] o.type #[v, u]).run P w = .ok v' w') (h : K (a.put o.dst v') w') : o.wp P a w K Q := by
 unfold Oper.wp execOp
 simp only [ho, resolve, invoke, builtin, Sem.run_bind, Sem.run_pure, Result.andThen_ok, List.map_toArray, List.map_cons, List.map_nil, hd, hs, hr]
 exact h
theorem wpList_copy_row (w : World) {ops : Array Oper} {rest : List Oper} {o : Oper} {a : Act} {Q : Exit → Act → World → Prop} (hgd : o.guard = none) (d s : Operand) (t t' : TypeId)
  (ho : o.op = .call { callee := .builtin .copy, args := #[d, s], argTypes := #[t, t'] }) (v u : Value) (hd : a.eval d = v) (hs : a.eval s = u) {v' : Value} {w' : World}
  (hr : (Builtin.copy_ #[t, t'] o.type #[v, u]).run P w = .ok v' w') (h : wpList P ops Q rest (a.put o.dst v') w') : wpList P ops Q (o :: rest) a w :=
 wpList_plain hgd fun _ hK => wp_copy_row w d s t t' ho v u hd hs hr (hK _ _ h)
theorem step_copy_row {ops : Array Oper} {o : Oper} {a : Act} {w : World} {K : Act → World → Prop} {Q : Exit → Act → World → Prop} {E : Prop}
  (hg : o.guard = none) (d x : Operand) (dT sT : TypeId) (hop : o.op = Op.call { callee := Callee.builtin Builtin.copy, args := #[d, x], argTypes := #[dT, sT] })
  (v u : Value) (hd : a.eval d = v) (hx : a.eval x = u) {v' : Value} {w' : World} (hr : (Builtin.copy_ #[dT, sT] o.type #[v, u]).run P w = .ok v' w') (hK : K (a.put o.dst v') w') :
  if Region.wanted o (yielded ops a.tmps) = true then Oper.wp P o a w K Q else E := by
 have hw : Region.wanted o (yielded ops a.tmps) = true := by simp [Region.wanted, hg]
 rw [if_pos hw]
 unfold Oper.wp
 simp [execOp, hop, resolve, invoke, builtin, hd, hx, hr, Result.andThen]
 exact hK
end Go.Proofs
namespace Go.Proofs
open Go.Shelf Go.RowKit Go.Lib
set_option linter.unusedVariables false
set_option linter.unusedSimpArgs false
theorem Tryz.insInfo3 : ∃ i z, Tryz.prog.info? 3 = some i ∧ i.zero = some z ∧ i.size = 1 ∧ i.bytes = 8 ∧ z.cells.size = 1 := by
 have h1 : (Tryz.prog.info? 3).map (fun i => (i.size, i.bytes, i.zero.map fun z => z.cells.size)) = some (1, 8, some 1) := by kernel_rfl
 obtain ⟨i, hi, he⟩ := Option.map_eq_some_iff.1 h1
 cases hz : i.zero with
 | none => rw [hz] at he; simp at he
 | some z =>
  rw [hz] at he
  simp at he
  exact ⟨i, z, hi, hz, he.1, he.2.1, he.2.2⟩
set_option maxHeartbeats 4000000 in
set_option maxRecDepth 100000 in
theorem Tryz.ins118_end (w : World) (B : Nat) (v : Value) (n : Nat) (flat : List Value) (vb vc : Nat) (vs : List Value) (hB : B ≤ w.heap.size) (ho : w.ownsRow B 3 1 v n flat) (hn : n ≤ 1000000)
  (hvl : vs.length = 1) (hvs : ∀ j u, vs[j]? = some u → w.cell? ⟨vb, 0 + j, none⟩ = some u) (h1v : ∀ u ∈ vs, u.oneCell' = true) :
  Calls Tryz.prog 118 #[v, .int .i64 n, .slice (some ⟨vb, 0, none⟩) 1 vc] w fun e w' => ∃ u, e = .returned u ∧ w'.ownsRow B 3 1 u (n + 1) (flat ++ vs) ∧ w.grownBy w' v.ownBlock ∧ (u.ownBlock = v.ownBlock ∨ u.ownBlock = some w.heap.size) ∧ w.drawn ≤ w'.drawn := by
 obtain ⟨i0, z, hi, hz, hsz, hby, hzs⟩ := Tryz.insInfo3
 have mixed : Tryz.prog.follows .mixedOrders = true := by kernel_rfl
 have hlv : vs.length = 1 * 1 := by omega
 have hc : ∀ j u, vs[j]? = some u → w.cell? ((⟨vb, 0, none⟩ : Addr).add j) = some u := fun j u hj => by rw [Addr.add_lit]; exact hvs j u hj
 obtain ⟨u, w1, hr, h2, h3, _⟩ := run_append_own (P := Tryz.prog) w B 23 23 3 i0 z 1 8 Tryz.underlying23 hi hz hsz hby hzs (by decide) v n flat ho ⟨vb, 0, none⟩ 1 vc vs hlv hc h1v (by unfold maxLen; omega) (by omega) hB
 have hw := Go.Sx.append_where 23 23 3 i0 z Tryz.underlying23 hi hz hsz hby ho hlv hc h1v (by unfold maxLen; omega) (by omega) hr
 have hd := Go.Sx.run_drawn hr
 rcases ho.2 with ⟨rfl, hn0⟩ | ⟨g, cap, cur, rfl, _, _, hnc, hcm, _⟩
 ·subst hn0
  go_enter Tryz.func118, Tryz.ntmps118
  go_wp2_with (at_builtin; refine Lib.wpList_append_run _ rfl _ _ _ _ rfl _ _ rfl rfl _ _ hr ?_)
  go_ret
  exact ⟨u, rfl, h2, h3, hw, hd⟩
 ·go_enter Tryz.func118, Tryz.ntmps118
  go_wp2_with (at_builtin; refine Lib.wpList_append_run _ rfl _ _ _ _ rfl _ _ rfl rfl _ _ hr ?_)
  all_goals (go_ret; exact ⟨u, rfl, h2, h3, hw, hd⟩)
set_option maxHeartbeats 4000000 in
set_option maxRecDepth 100000 in
theorem Tryz.ins118_shift (w : World) (g cap : Nat) (cur : Array Value) (n : Nat) (i : Nat) (vb vc : Nat) (vcur : Array Value) (vs : List Value) (hg : w.heap[g]? = some (.cells cur 3 (0, 0))) (hnc : n + 1 ≤ cap) (hcm : cap ≤ maxLen) (hcur : cur.size = cap * 1) (hi : i < n)
    (hv : w.heap[vb]? = some (.cells vcur 3 (0, 0))) (hne : vb ≠ g) (hvl : vs.length = 1) (hvs : ∀ j u, vs[j]? = some u → w.cell? ⟨vb, 0 + j, none⟩ = some u) (h1v : ∀ u ∈ vs, u.oneCell' = true) (h1 : ∀ u ∈ cur.toList.take (n * 1), u.oneCell' = true) :
    Calls Tryz.prog 118 #[.slice (some ⟨g, 0, none⟩) n cap, .int .i64 i, .slice (some ⟨vb, 0, none⟩) 1 vc] w fun e w' => e = .returned (.slice (some ⟨g, 0, none⟩) (n + 1) cap) ∧ ∃ cur', w' = w.drew.setRow g cur' ∧ cur'.size = cap * 1 ∧ cur'.toList.take ((n + 1) * 1) = (cur.toList.take (n * 1)).take (i) ++ vs ++ (cur.toList.take (n * 1)).drop (i) := by
  obtain ⟨i0, z, hi0, hz, hsz, hby, hzs⟩ := Tryz.insInfo3
  have mixed : Tryz.prog.follows .mixedOrders = true := by kernel_rfl
  have hszK : (Tryz.prog.info? 3).map (·.size) = some 1 := by rw [hi0]; simp [hsz]
  have hzz : ∀ w, (Go.sizeOf 3).run Tryz.prog w = .ok 1 w := fun w => by simp [Go.sizeOf, typeInfo, hi0, hsz]
  have hov : ∀ o lb cb, (callFunc 158 #[.slice (some ⟨vb, 0, none⟩) 1 vc, .slice (some ⟨g, o, none⟩) lb cb]).run Tryz.prog w = .ok (.value (.bool false)) w := fun o lb cb => by
    rw [run_callFunc_extern Tryz.func158 (by kernel_rfl) (by kernel_rfl) (by kernel_rfl) (e := Extern.SlicesOverlaps.overlaps #[23, 23] #[4]) (by kernel_rfl),
      Lib.run_overlaps_apart w 23 4 3 Tryz.underlying23 1 hzz ⟨vb, 0, none⟩ ⟨g, o, none⟩ 1 vc lb cb hne 3 3 vcur.size cur.size (by simp [World.shape?, hv]) (by simp [World.shape?, hg]) (by rw [hcur]; omega) (by simp [World.frozen?, hv]) (by simp [World.frozen?, hv])]
    rfl
  have hz2 : ¬ ((i : Int) = (n : Int)) := by omega
  have hw1 : IntKind.i64.wrap ((i : Int) + 1) = (i : Int) + 1 := by rw [IntKind.wrap_i64]; unfold maxLen at hcm; omega
  have hb1 : (0 : Int) ≤ (i : Int) + 1 := by omega
  have hin : i ≤ n := by omega
  have htn : ((i : Int) + 1).toNat = i + 1 := by omega
  have hb2 : ¬ (cap = i + 1) := by omega
  have hb3 : (i : Int) ≤ (n : Int) + 1 := by omega
  have hb4 : ¬ (cap = i) := by omega
  have hcm' : cap ≤ 9223372036854775807 := by unfold maxLen at hcm; omega
  have hcl : cur.toList.length = cap * 1 := by simpa using hcur
  have hfl : ((cur.toList.take (n * 1)).drop (i)).length = (n - i) * 1 := by
    rw [List.length_drop, List.length_take, hcl, Nat.sub_mul]; omega
  have hcp1 : ∀ ty, (Builtin.copy_ #[23, 23] ty #[.slice (some ⟨g, (i + 1), none⟩) (n + 1 - (i + 1)) (cap - (i + 1)), .slice (some ⟨g, i, none⟩) (n + 1 - i) (cap - i)]).run Tryz.prog w.drew = .ok (goInt (Nat.min (n + 1 - i) (n + 1 - (i + 1)))) (w.drew.setRow g (cur.toList.take ((i + 1)) ++ (cur.toList.take (n * 1)).drop (i) ++ cur.toList.drop ((i + 1) + ((cur.toList.take (n * 1)).drop (i)).length)).toArray) := fun ty =>
    run_copy_row_k w.drew 23 23 ty 3 1 g ((i + 1)) _ _ ⟨g, i, none⟩ _ _ cur 3 ((cur.toList.take (n * 1)).drop (i)) Tryz.underlying23 hszK hg
      (by rw [hfl]; congr 1; simp only [Nat.min_def]; split <;> omega)
      (fun j u hj => by
        rw [Addr.add_lit]
        rw [List.getElem?_drop, List.getElem?_take] at hj
        split at hj
        · show w.cell? _ = some u
          simp only [World.cell?, hg]
          simpa using hj
        · cases hj)
      (by rw [hfl, hcur]; omega)
      (fun u hu => h1 u (List.mem_of_mem_drop hu))
  obtain ⟨cur1, hcur1⟩ : ∃ c : Array Value, c = (cur.toList.take ((i + 1)) ++ (cur.toList.take (n * 1)).drop (i) ++ cur.toList.drop ((i + 1) + ((cur.toList.take (n * 1)).drop (i)).length)).toArray := ⟨_, rfl⟩
  rw [← hcur1] at hcp1
  have hg1 : (w.drew.setRow g cur1).heap[g]? = some (.cells cur1 3 (0, 0)) := setRow_heap w.drew g cur cur1 3 (0, 0) hg
  have hl1 : cur1.toList.length = cap * 1 := by
    rw [hcur1]
    simp only [List.length_append, List.length_drop, List.length_take, hcl]
    omega
  have hcp2 : ∀ ty, (Builtin.copy_ #[23, 23] ty #[.slice (some ⟨g, i, none⟩) (n + 1 - i) (cap - i), .slice (some ⟨vb, 0, none⟩) 1 vc]).run Tryz.prog (w.drew.setRow g cur1) = .ok (goInt (Nat.min 1 (n + 1 - i))) ((w.drew.setRow g cur1).setRow g (cur1.toList.take (i) ++ vs ++ cur1.toList.drop (i + vs.length)).toArray) := fun ty =>
    run_copy_row_k (w.drew.setRow g cur1) 23 23 ty 3 1 g (i) _ _ ⟨vb, 0, none⟩ _ _ cur1 3 vs Tryz.underlying23 hszK hg1
      (by rw [hvl, show Nat.min 1 (n + 1 - i) = 1 by simp only [Nat.min_def]; split <;> omega])
      (fun j u hj => by
        rw [Addr.add_lit, cell_setRow_other _ _ _ _ hne]
        exact hvs j u hj)
      (by rw [hvl]; have : cur1.size = cap * 1 := by simpa using hl1
          omega)
      h1v
  have hfin : ∃ cur', (w.drew.setRow g cur1).setRow g (cur1.toList.take (i) ++ vs ++ cur1.toList.drop (i + vs.length)).toArray = w.drew.setRow g cur' ∧ cur'.size = cap * 1 ∧ cur'.toList.take ((n + 1) * 1) = (cur.toList.take (n * 1)).take (i) ++ vs ++ (cur.toList.take (n * 1)).drop (i) := by
    refine ⟨_, setRow_setRow _ _ _ _, ?_, ?_⟩
    · simp only [List.size_toArray, List.length_append, List.length_take, List.length_drop, hl1, hvl]; omega
    · have e1 : cur1.toList = cur.toList.take ((i + 1)) ++ (cur.toList.take (n * 1)).drop (i) ++ cur.toList.drop ((i + 1) + ((cur.toList.take (n * 1)).drop (i)).length) := by rw [hcur1]
      have a1 : (cur.toList.take ((i + 1))).length = (i + 1) := by rw [List.length_take, hcl]; omega
      have e2 : cur1.toList.take (i) = (cur.toList.take (n * 1)).take (i) := by
        rw [e1, List.append_assoc, List.take_append_of_le_length (by rw [a1]; omega), List.take_take, List.take_take]
        congr 1; omega
      have e3 : (cur1.toList.drop (i + vs.length)).take ((n - i) * 1) = (cur.toList.take (n * 1)).drop (i) := by
        rw [e1, hvl, show i + 1 = (i + 1) by omega, List.append_assoc, List.drop_append_of_le_length (by rw [a1]; omega), List.drop_of_length_le (by rw [a1]; omega), List.nil_append, List.take_append_of_le_length (by rw [hfl]; omega), List.take_of_length_le (by rw [hfl]; omega)]
      have l2 : (cur1.toList.take (i) ++ vs).length = (i + 1) := by rw [List.length_append, List.length_take, hl1, hvl]; omega
      show (cur1.toList.take (i) ++ vs ++ cur1.toList.drop (i + vs.length)).take ((n + 1) * 1) = _
      rw [List.take_append, l2, List.take_of_length_le (by rw [l2]; omega), show (n + 1) * 1 - (i + 1) = (n - i) * 1 by omega, e3, e2]
  clear hcur1 hl1 hg1 hfl hcl
  go_enter Tryz.func118, Tryz.ntmps118
  go_wp2_with (simp only [hov])
  go_region_law_o (refine step_copy_row rfl _ _ 23 23 rfl (.slice (some ⟨g, (i + 1), none⟩) (n + 1 - (i + 1)) (cap - (i + 1))) (.slice (some ⟨g, i, none⟩) (n + 1 - i) (cap - i)) (by simp [Act.eval, Act.put]) (by simp [Act.eval, Act.put]) (hcp1 _) ?_)
  go_wp2_with (at_builtin; refine wpList_copy_row _ rfl _ _ 23 23 rfl _ _ rfl rfl (hcp2 _) ?_)
  go_ret
  exact ⟨rfl, by rw [hvl, List.append_assoc] at hfin; exact hfin⟩
set_option maxHeartbeats 4000000 in
set_option maxRecDepth 100000 in
theorem Tryz.ins118_grow (w : World) (g cap : Nat) (cur : Array Value) (n : Nat) (i : Nat) (vb vc : Nat) (vs : List Value) (hg : w.heap[g]? = some (.cells cur 3 (0, 0))) (hnc : n ≤ cap) (hroom : cap < n + 1) (hn : n ≤ 1000000) (hcur : cur.size = cap * 1) (hi : i < n)
  (hvw : vb < w.heap.size) (hvl : vs.length = 1) (hvs : ∀ j u, vs[j]? = some u → w.cell? ⟨vb, 0 + j, none⟩ = some u) (h1v : ∀ u ∈ vs, u.oneCell' = true) (h1 : ∀ u ∈ cur.toList.take (n * 1), u.oneCell' = true) :
  Calls Tryz.prog 118 #[.slice (some ⟨g, 0, none⟩) n cap, .int .i64 i, .slice (some ⟨vb, 0, none⟩) 1 vc] w fun e w' => ∃ (c2 : Nat) (row : Array Value), e = .returned (.slice (some ⟨w.heap.size, 0, none⟩) (n + 1) c2) ∧ (w'.heap[w.heap.size]? = some (.cells row 3 (0, 0)) ∧ w.grownBy w' none) ∧ w.drawn ≤ w'.drawn ∧ n + 1 ≤ c2 ∧ c2 ≤ maxLen ∧ row.size = c2 * 1 ∧ row.toList.take ((n + 1) * 1) = (cur.toList.take (n * 1)).take (i) ++ vs ++ (cur.toList.take (n * 1)).drop (i) := by
 obtain ⟨i0, z, hi0, hz, hsz, hby, hzs⟩ := Tryz.insInfo3
 have mixed : Tryz.prog.follows .mixedOrders = true := by kernel_rfl
 have hszK : (Tryz.prog.info? 3).map (·.size) = some 1 := by rw [hi0]; simp [hsz]
 have hz2 : ¬ ((i : Int) = (n : Int)) := by omega
 have hz3 : (cap : Int) < (n : Int) + 1 := by omega
 have hbw : g < w.heap.size := (Array.getElem?_eq_some_iff.1 hg).1
 have hkk : (n : Int) + 1 - (i : Int) = ((n + 1 - i : Nat) : Int) := by omega
 have hik : i + (n + 1 - i) = n + 1 := by omega
 have hcl : cur.toList.length = cap * 1 := by simpa using hcur
 have hold : (Builtin.firstCells i0.size i (.slice (some ⟨g, 0, none⟩) i cap)).run Tryz.prog w.drew = .ok (cur.toList.take (i)).toArray w.drew := by
  rw [hsz]
  exact run_firstCells_some w.drew 1 i ⟨g, 0, none⟩ i cap (cur.toList.take (i)) (by rw [List.length_take, hcl]; omega) (fun j v hj => by
   rw [Addr.add_lit]
   rw [List.getElem?_take] at hj
   split at hj
   ·show w.cell? _ = some v
    simp only [World.cell?, hg]
    simpa using hj
   ·cases hj)
 have hrz : ∀ ty, (Builtin.append_ #[23, 3] ty #[.slice (some ⟨g, 0, none⟩) i cap, .int .i64 ((n : Int) + 1 - (i : Int))]).run Tryz.prog w =
   .ok (.slice (some ⟨w.heap.size, 0, none⟩) (n + 1) (grownCap w (n + 1) cap 3)) (w.drew.alloc (.cells ((cur.toList.take (i)).toArray ++ Builtin.zeroCells z.cells (n + 1 - i) ++ Builtin.zeroCells z.cells (grownCap w (n + 1) cap 3 - (n + 1))) 3)) := fun ty => by
  have h := Lib.run_append_grow_zeros w 23 3 ty 3 i0 z .i64 .i64 Tryz.underlying23 Tryz.underlying3 hi0 hz (some ⟨g, 0, none⟩) i cap (cur.toList.take (i)) hold (n + 1 - i) (by omega) (by omega) (by omega) (by omega) (by rw [hby]; omega) (by rw [hby, hik]; exact growslice_fits hroom (by omega))
  rw [hik] at h
  rw [hkk]
  exact h
 obtain ⟨G, hG⟩ : ∃ G, G = grownCap w (n + 1) cap 3 := ⟨_, rfl⟩
 obtain ⟨ROW, hROW⟩ : ∃ ROW : Array Value, ROW = (cur.toList.take (i)).toArray ++ Builtin.zeroCells z.cells (n + 1 - i) ++ Builtin.zeroCells z.cells (G - (n + 1)) := ⟨_, rfl⟩
 rw [← hG] at hrz
 rw [← hROW] at hrz
 have hGn : n + 1 ≤ G := by rw [hG]; exact grownCap_ge w _ _ _
 have hGm : G ≤ maxLen := by rw [hG]; exact grownCap_le_maxLen w (n + 1) cap 3 (by unfold maxLen; omega)
 have hzc : ∀ m, (Builtin.zeroCells z.cells m).size = m * 1 := fun m => by simp [Builtin.zeroCells, hzs]
 have hRs : ROW.size = G * 1 := by
  rw [hROW]
  simp only [Array.size_append, hzc, List.size_toArray, List.length_take, hcl]
  omega
 obtain ⟨W1, hW1⟩ : ∃ W1, W1 = w.drew.alloc (.cells ROW 3) := ⟨_, rfl⟩
 rw [← hW1] at hrz
 have hg1 : W1.heap[w.heap.size]? = some (.cells ROW 3 (0, 0)) := by rw [hW1]; exact heap_alloc_new w.drew _
 have hfl : ((cur.toList.take (n * 1)).drop (i)).length = (n - i) * 1 := by
  rw [List.length_drop, List.length_take, hcl, Nat.sub_mul]; omega
 have hRl : ROW.toList.length = G * 1 := by simpa using hRs
 have hcpA : ∀ (W : World), W.heap = W1.heap → ∀ ty dc, (Builtin.copy_ #[23, 23] ty #[.slice (some ⟨w.heap.size, i, none⟩) (n + 1 - i) dc, .slice (some ⟨vb, 0, none⟩) 1 vc]).run Tryz.prog W = .ok (goInt (Nat.min 1 (n + 1 - i))) (W.setRow w.heap.size (ROW.toList.take (i) ++ vs ++ ROW.toList.drop (i + vs.length)).toArray) := fun W hW ty dc =>
  run_copy_row_k W 23 23 ty 3 1 w.heap.size (i) _ _ ⟨vb, 0, none⟩ _ _ ROW 3 vs Tryz.underlying23 hszK (by rw [hW]; exact hg1)
   (by rw [hvl, show Nat.min 1 (n + 1 - i) = 1 by simp only [Nat.min_def]; split <;> omega])
   (fun j u hj => by
    rw [Addr.add_lit]
    have := hvs j u hj
    have e : W.heap[vb]? = w.heap[vb]? := by
     rw [hW, hW1]
     show (w.drew.heap.push _)[vb]? = _
     rw [Array.getElem?_push]
     split
     ·rename_i q; exact absurd q (by show ¬ vb = w.heap.size; omega)
     ·rfl
    simp only [World.cell?, e] at this ⊢
    exact this)
   (by rw [hvl, hRs]; omega)
   h1v
 obtain ⟨R2, hR2⟩ : ∃ R2 : Array Value, R2 = (ROW.toList.take (i) ++ vs ++ ROW.toList.drop (i + vs.length)).toArray := ⟨_, rfl⟩
 rw [← hR2] at hcpA
 have hR2s : R2.size = G * 1 := by
  rw [hR2]
  simp only [List.size_toArray, List.length_append, List.length_take, List.length_drop, hRl, hvl]; omega
 have hR2l : R2.toList.length = G * 1 := by simpa using hR2s
 have hcpB : ∀ (W : World), W.heap = (W1.setRow w.heap.size R2).heap → ∀ ty dc sc, (Builtin.copy_ #[23, 23] ty #[.slice (some ⟨w.heap.size, (i + 1), none⟩) (n + 1 - (i + 1)) dc, .slice (some ⟨g, i, none⟩) (n - i) sc]).run Tryz.prog W = .ok (goInt (Nat.min (n - i) (n + 1 - (i + 1)))) (W.setRow w.heap.size (R2.toList.take ((i + 1)) ++ (cur.toList.take (n * 1)).drop (i) ++ R2.toList.drop ((i + 1) + ((cur.toList.take (n * 1)).drop (i)).length)).toArray) := fun W hW ty dc sc =>
  run_copy_row_k W 23 23 ty 3 1 w.heap.size ((i + 1)) _ _ ⟨g, i, none⟩ _ _ R2 3 ((cur.toList.take (n * 1)).drop (i)) Tryz.underlying23 hszK (by rw [hW]; exact setRow_heap W1 w.heap.size ROW R2 3 (0, 0) hg1)
   (by rw [hfl]; congr 1; simp only [Nat.min_def]; split <;> omega)
   (fun j u hj => by
    rw [Addr.add_lit]
    have e : W.heap[g]? = some (.cells cur 3 (0, 0)) := by
     rw [hW, setRow_other _ _ _ _ (by omega), hW1]
     show (w.drew.heap.push _)[g]? = _
     rw [Array.getElem?_push]
     split
     ·rename_i q; exact absurd q (by show ¬ g = w.heap.size; omega)
     ·exact hg
    rw [List.getElem?_drop, List.getElem?_take] at hj
    split at hj
    ·simp only [World.cell?, e]
     simpa using hj
    ·cases hj)
   (by rw [hfl, hR2s]; omega)
   (fun u hu => h1 u (List.mem_of_mem_drop hu))
 obtain ⟨R3, hR3⟩ : ∃ R3 : Array Value, R3 = (R2.toList.take ((i + 1)) ++ (cur.toList.take (n * 1)).drop (i) ++ R2.toList.drop ((i + 1) + ((cur.toList.take (n * 1)).drop (i)).length)).toArray := ⟨_, rfl⟩
 rw [← hR3] at hcpB
 have hR3s : R3.size = G * 1 := by
  rw [hR3]
  simp only [List.size_toArray, List.length_append, List.length_take, List.length_drop, hR2l, hcl]; omega
 have hfin : R3.toList.take ((n + 1) * 1) = (cur.toList.take (n * 1)).take (i) ++ vs ++ (cur.toList.take (n * 1)).drop (i) := by
  have a1 : (cur.toList.take (i)).length = i := by rw [List.length_take, hcl]; omega
  have e1 : ROW.toList.take (i) = (cur.toList.take (n * 1)).take (i) := by
   rw [hROW, Array.append_assoc]
   simp only [Array.toList_append]
   rw [List.take_append_of_le_length (by rw [a1]; omega), List.take_of_length_le (by rw [a1]; omega), List.take_take]
   congr 1; omega
  have e2 : R2.toList.take ((i + 1)) = (cur.toList.take (n * 1)).take (i) ++ vs := by
   rw [hR2]
   show (ROW.toList.take (i) ++ vs ++ ROW.toList.drop (i + vs.length)).take ((i + 1)) = _
   rw [e1]
   have l2 : ((cur.toList.take (n * 1)).take (i) ++ vs).length = (i + 1) := by rw [List.length_append, List.length_take, List.length_take, hcl, hvl]; omega
   rw [List.take_append_of_le_length (by rw [l2]; omega), List.take_of_length_le (by rw [l2]; omega)]
  have l3 : (R2.toList.take ((i + 1)) ++ (cur.toList.take (n * 1)).drop (i)).length = (n + 1) * 1 := by rw [List.length_append, List.length_take, hR2l, hfl]; omega
  rw [hR3]
  show (R2.toList.take ((i + 1)) ++ (cur.toList.take (n * 1)).drop (i) ++ R2.toList.drop _).take ((n + 1) * 1) = _
  rw [List.take_append_of_le_length (by rw [l3]; omega), List.take_of_length_le (by rw [l3]; omega), e2]
 have hend : ∀ W : World, W.heap = ((W1.setRow w.heap.size R2).setRow w.heap.size R3).heap → W.os = w.os → W.tape = w.tape → W.output = w.output → W.heap[w.heap.size]? = some (.cells R3 3 (0, 0)) ∧ w.grownBy W none := by
  intro W hW h1 h2 h3
  refine ⟨by rw [hW]; exact setRow_heap _ _ R2 R3 3 (0, 0) (setRow_heap W1 w.heap.size ROW R2 3 (0, 0) hg1), h1, h2, h3, ?_, fun k hk _ => ?_⟩
  ·rw [hW, setRow_size, setRow_size, hW1]
   show w.heap.size ≤ (w.drew.heap.push _).size
   rw [Array.size_push]
   exact Nat.le_succ _
  ·rw [hW, setRow_other _ _ _ _ (by omega), setRow_other _ _ _ _ (by omega), hW1]
   show (w.drew.heap.push _)[k]? = _
   rw [Array.getElem?_push]
   split
   ·rename_i q; exact absurd q (by show ¬ k = w.heap.size; omega)
   ·rfl
 have hG63 : G ≤ 9223372036854775807 := by unfold maxLen at hGm; omega
 have hGi : ¬ (G = i) := by omega
 have hGim : ¬ (G = i + 1) := by omega
 have hci : ¬ (cap = i) := by omega
 have hw1 : IntKind.i64.wrap ((i : Int) + 1) = (i : Int) + 1 := by rw [IntKind.wrap_i64]; omega
 have hb1 : (0 : Int) ≤ (i : Int) + 1 := by omega
 have hin : i ≤ n := by omega
 have htn : ((i : Int) + 1).toNat = i + 1 := by omega
 have hb3 : (i : Int) ≤ (n : Int) := by omega
 clear hkk hik hold hROW hG hRl hcl hfl hR2 hR3 hR2s hR2l hRs
 subst hW1
 have hF : ((((w.alloc (.cells ROW 3)).drew).setRow w.heap.size R2).drew).heap = ((w.drew.alloc (.cells ROW 3)).setRow w.heap.size R2).heap := rfl
 go_enter Tryz.func118, Tryz.ntmps118
 go_wp2_with (at_builtin; refine Lib.wpList_append_run _ rfl _ _ _ _ rfl _ _ rfl rfl _ _ (hrz _) ?_)
 rw [hcpA ((w.alloc (.cells ROW 3)).drew) rfl 3 (G - i)]
 go_wp2
 go_region_law_o (refine step_copy_row rfl _ _ 23 23 rfl (.slice (some ⟨w.heap.size, (i + 1), none⟩) (n + 1 - (i + 1)) (G - (i + 1))) (.slice (some ⟨g, i, none⟩) (n - i) (cap - i)) (by simp [Act.eval, Act.put]) (by simp [Act.eval, Act.put]) (hcpB ((((w.alloc (.cells ROW 3)).drew).setRow w.heap.size R2).drew) hF _ _ _) ?_)
 go_wp2
 go_ret
 exact ⟨G, R3, rfl, hend _ rfl rfl rfl rfl, by show w.drawn ≤ w.drawn + 1 + 1; omega, hGn, hGm, hR3s, hfin⟩
theorem Tryz.ins118 (w : World) (B : Nat) (v : Value) (n : Nat) (flat : List Value) (i vb vc : Nat) (vcur : Array Value) (vs : List Value) (hB : B ≤ w.heap.size) (ho : w.ownsRow B 3 1 v n flat) (hi : i ≤ n) (hn : n ≤ 1000000)
  (hv : w.heap[vb]? = some (.cells vcur 3 (0, 0))) (hne : v.ownBlock ≠ some vb) (hvl : vs.length = 1) (hvs : ∀ j u, vs[j]? = some u → w.cell? ⟨vb, 0 + j, none⟩ = some u) (h1v : ∀ u ∈ vs, u.oneCell' = true) (h1 : ∀ u ∈ flat, u.oneCell' = true) :
  Calls Tryz.prog 118 #[v, .int .i64 i, .slice (some ⟨vb, 0, none⟩) 1 vc] w fun e w' => ∃ u, e = .returned u ∧ w'.ownsRow B 3 1 u (n + 1) (flat.take (i * 1) ++ vs ++ flat.drop (i * 1)) ∧ w.grownBy w' v.ownBlock ∧ (u.ownBlock = v.ownBlock ∨ u.ownBlock = some w.heap.size) ∧ w.drawn ≤ w'.drawn := by
 by_cases hin : i = n
 ·subst hin
  rw [List.take_of_length_le (by rw [ho.1]; omega), List.drop_of_length_le (by rw [ho.1]; omega), List.append_nil]
  exact Tryz.ins118_end w B v i flat vb vc vs hB ho hn hvl hvs h1v
 have hl := ho.1
 rcases ho.2 with ⟨_, h0⟩ | ⟨g, cap, cur, rfl, hBg, hg, hnc, hcm, hcur, htk⟩
 ·omega
 have hne : vb ≠ g := fun e => hne (by rw [e]; rfl)
 have hgl : g < w.heap.size := (Array.getElem?_eq_some_iff.1 hg).1
 subst htk
 have hflat : ∀ A B C : List Value, A = (cur.toList.take (n * 1)).take (i * 1) → C = (cur.toList.take (n * 1)).drop (i * 1) → (A ++ vs ++ C).length = (n + 1) * 1 := by
  rintro A B C rfl rfl
  rw [List.length_append, List.length_append, List.length_take, List.length_drop, hl, hvl]; omega
 by_cases hroom : n + 1 ≤ cap
 ·refine (Tryz.ins118_shift w g cap cur n i vb vc vcur vs hg hroom hcm hcur (by omega) hv hne hvl hvs h1v h1).mono ?_
  rintro e w' ⟨rfl, cur', rfl, h2, h3⟩
  refine ⟨_, rfl, ⟨hflat _ [] _ rfl rfl, .inr ⟨g, cap, cur', rfl, hBg, setRow_heap w.drew g cur cur' 3 (0, 0) hg, hroom, hcm, h2, by first | exact h3 | (rw [Nat.mul_one i]; exact h3)⟩⟩, ⟨rfl, rfl, rfl, by rw [setRow_size]; exact Nat.le_refl _, fun k _ hk => ?_⟩, .inl rfl, Nat.le_succ _⟩
  exact setRow_other _ _ _ _ fun e => hk (by rw [e]; rfl)
 ·refine (Tryz.ins118_grow w g cap cur n i vb vc vs hg hnc (by omega) hn hcur (by omega) (Array.getElem?_eq_some_iff.1 hv).1 hvl hvs h1v h1).mono ?_
  rintro e w' ⟨c2, row, rfl, ⟨hr, hgr⟩, hd, h2, h3, h4, h5⟩
  exact ⟨_, rfl, ⟨hflat _ [] _ rfl rfl, .inr ⟨w.heap.size, c2, row, rfl, hB, hr, h2, h3, h4, by first | exact h5 | (rw [Nat.mul_one i]; exact h5)⟩⟩, ⟨hgr.os, hgr.tape, hgr.output, hgr.size, fun k hk _ => hgr.block k hk (by simp)⟩, .inr rfl, hd⟩
theorem Tryz.insInfo166 : ∃ i z, Tryz.prog.info? 166 = some i ∧ i.zero = some z ∧ i.size = 2 ∧ i.bytes = 16 ∧ z.cells.size = 2 := by
 have h1 : (Tryz.prog.info? 166).map (fun i => (i.size, i.bytes, i.zero.map fun z => z.cells.size)) = some (2, 16, some 2) := by kernel_rfl
 obtain ⟨i, hi, he⟩ := Option.map_eq_some_iff.1 h1
 cases hz : i.zero with
 | none => rw [hz] at he; simp at he
 | some z =>
  rw [hz] at he
  simp at he
  exact ⟨i, z, hi, hz, he.1, he.2.1, he.2.2⟩
set_option maxHeartbeats 4000000 in
set_option maxRecDepth 100000 in
theorem Tryz.ins117_end (w : World) (B : Nat) (v : Value) (n : Nat) (flat : List Value) (vb vc : Nat) (vs : List Value) (hB : B ≤ w.heap.size) (ho : w.ownsRow B 166 2 v n flat) (hn : n ≤ 1000000)
  (hvl : vs.length = 2) (hvs : ∀ j u, vs[j]? = some u → w.cell? ⟨vb, 0 + j, none⟩ = some u) (h1v : ∀ u ∈ vs, u.oneCell' = true) :
  Calls Tryz.prog 117 #[v, .int .i64 n, .slice (some ⟨vb, 0, none⟩) 1 vc] w fun e w' => ∃ u, e = .returned u ∧ w'.ownsRow B 166 2 u (n + 1) (flat ++ vs) ∧ w.grownBy w' v.ownBlock ∧ (u.ownBlock = v.ownBlock ∨ u.ownBlock = some w.heap.size) ∧ w.drawn ≤ w'.drawn := by
 obtain ⟨i0, z, hi, hz, hsz, hby, hzs⟩ := Tryz.insInfo166
 have mixed : Tryz.prog.follows .mixedOrders = true := by kernel_rfl
 have hlv : vs.length = 1 * 2 := by omega
 have hc : ∀ j u, vs[j]? = some u → w.cell? ((⟨vb, 0, none⟩ : Addr).add j) = some u := fun j u hj => by rw [Addr.add_lit]; exact hvs j u hj
 obtain ⟨u, w1, hr, h2, h3, _⟩ := run_append_own (P := Tryz.prog) w B 35 35 166 i0 z 2 16 Tryz.underlying35 hi hz hsz hby hzs (by decide) v n flat ho ⟨vb, 0, none⟩ 1 vc vs hlv hc h1v (by unfold maxLen; omega) (by omega) hB
 have hw := Go.Sx.append_where 35 35 166 i0 z Tryz.underlying35 hi hz hsz hby ho hlv hc h1v (by unfold maxLen; omega) (by omega) hr
 have hd := Go.Sx.run_drawn hr
 rcases ho.2 with ⟨rfl, hn0⟩ | ⟨g, cap, cur, rfl, _, _, hnc, hcm, _⟩
 ·subst hn0
  go_enter Tryz.func117, Tryz.ntmps117
  go_wp2_with (at_builtin; refine Lib.wpList_append_run _ rfl _ _ _ _ rfl _ _ rfl rfl _ _ hr ?_)
  go_ret
  exact ⟨u, rfl, h2, h3, hw, hd⟩
 ·go_enter Tryz.func117, Tryz.ntmps117
  go_wp2_with (at_builtin; refine Lib.wpList_append_run _ rfl _ _ _ _ rfl _ _ rfl rfl _ _ hr ?_)
  all_goals (go_ret; exact ⟨u, rfl, h2, h3, hw, hd⟩)
set_option maxHeartbeats 4000000 in
set_option maxRecDepth 100000 in
theorem Tryz.ins117_shift (w : World) (g cap : Nat) (cur : Array Value) (n : Nat) (i : Nat) (vb vc : Nat) (vcur : Array Value) (vs : List Value) (hg : w.heap[g]? = some (.cells cur 166 (0, 0))) (hnc : n + 1 ≤ cap) (hcm : cap ≤ maxLen) (hcur : cur.size = cap * 2) (hi : i < n)
    (hv : w.heap[vb]? = some (.cells vcur 166 (0, 0))) (hne : vb ≠ g) (hvl : vs.length = 2) (hvs : ∀ j u, vs[j]? = some u → w.cell? ⟨vb, 0 + j, none⟩ = some u) (h1v : ∀ u ∈ vs, u.oneCell' = true) (h1 : ∀ u ∈ cur.toList.take (n * 2), u.oneCell' = true) :
    Calls Tryz.prog 117 #[.slice (some ⟨g, 0, none⟩) n cap, .int .i64 i, .slice (some ⟨vb, 0, none⟩) 1 vc] w fun e w' => e = .returned (.slice (some ⟨g, 0, none⟩) (n + 1) cap) ∧ ∃ cur', w' = w.drew.setRow g cur' ∧ cur'.size = cap * 2 ∧ cur'.toList.take ((n + 1) * 2) = (cur.toList.take (n * 2)).take (i * 2) ++ vs ++ (cur.toList.take (n * 2)).drop (i * 2) := by
  obtain ⟨i0, z, hi0, hz, hsz, hby, hzs⟩ := Tryz.insInfo166
  have mixed : Tryz.prog.follows .mixedOrders = true := by kernel_rfl
  have hszK : (Tryz.prog.info? 166).map (·.size) = some 2 := by rw [hi0]; simp [hsz]
  have hzz : ∀ w, (Go.sizeOf 166).run Tryz.prog w = .ok 2 w := fun w => by simp [Go.sizeOf, typeInfo, hi0, hsz]
  have hov : ∀ o lb cb, (callFunc 156 #[.slice (some ⟨vb, 0, none⟩) 1 vc, .slice (some ⟨g, o, none⟩) lb cb]).run Tryz.prog w = .ok (.value (.bool false)) w := fun o lb cb => by
    rw [run_callFunc_extern Tryz.func156 (by kernel_rfl) (by kernel_rfl) (by kernel_rfl) (e := Extern.SlicesOverlaps.overlaps #[35, 35] #[4]) (by kernel_rfl),
      Lib.run_overlaps_apart w 35 4 166 Tryz.underlying35 2 hzz ⟨vb, 0, none⟩ ⟨g, o, none⟩ 1 vc lb cb hne 166 166 vcur.size cur.size (by simp [World.shape?, hv]) (by simp [World.shape?, hg]) (by rw [hcur]; omega) (by simp [World.frozen?, hv]) (by simp [World.frozen?, hv])]
    rfl
  have hz2 : ¬ ((i : Int) = (n : Int)) := by omega
  have hw1 : IntKind.i64.wrap ((i : Int) + 1) = (i : Int) + 1 := by rw [IntKind.wrap_i64]; unfold maxLen at hcm; omega
  have hb1 : (0 : Int) ≤ (i : Int) + 1 := by omega
  have hin : i ≤ n := by omega
  have htn : ((i : Int) + 1).toNat = i + 1 := by omega
  have hb2 : ¬ (cap = i + 1) := by omega
  have hb3 : (i : Int) ≤ (n : Int) + 1 := by omega
  have hb4 : ¬ (cap = i) := by omega
  have hcm' : cap ≤ 9223372036854775807 := by unfold maxLen at hcm; omega
  have hcl : cur.toList.length = cap * 2 := by simpa using hcur
  have hfl : ((cur.toList.take (n * 2)).drop (i * 2)).length = (n - i) * 2 := by
    rw [List.length_drop, List.length_take, hcl, Nat.sub_mul]; omega
  have hcp1 : ∀ ty, (Builtin.copy_ #[35, 35] ty #[.slice (some ⟨g, (i + 1) * 2, none⟩) (n + 1 - (i + 1)) (cap - (i + 1)), .slice (some ⟨g, i * 2, none⟩) (n + 1 - i) (cap - i)]).run Tryz.prog w.drew = .ok (goInt (Nat.min (n + 1 - i) (n + 1 - (i + 1)))) (w.drew.setRow g (cur.toList.take ((i + 1) * 2) ++ (cur.toList.take (n * 2)).drop (i * 2) ++ cur.toList.drop ((i + 1) * 2 + ((cur.toList.take (n * 2)).drop (i * 2)).length)).toArray) := fun ty =>
    run_copy_row_k w.drew 35 35 ty 166 2 g ((i + 1) * 2) _ _ ⟨g, i * 2, none⟩ _ _ cur 166 ((cur.toList.take (n * 2)).drop (i * 2)) Tryz.underlying35 hszK hg
      (by rw [hfl]; congr 1; simp only [Nat.min_def]; split <;> omega)
      (fun j u hj => by
        rw [Addr.add_lit]
        rw [List.getElem?_drop, List.getElem?_take] at hj
        split at hj
        · show w.cell? _ = some u
          simp only [World.cell?, hg]
          simpa using hj
        · cases hj)
      (by rw [hfl, hcur]; omega)
      (fun u hu => h1 u (List.mem_of_mem_drop hu))
  obtain ⟨cur1, hcur1⟩ : ∃ c : Array Value, c = (cur.toList.take ((i + 1) * 2) ++ (cur.toList.take (n * 2)).drop (i * 2) ++ cur.toList.drop ((i + 1) * 2 + ((cur.toList.take (n * 2)).drop (i * 2)).length)).toArray := ⟨_, rfl⟩
  rw [← hcur1] at hcp1
  have hg1 : (w.drew.setRow g cur1).heap[g]? = some (.cells cur1 166 (0, 0)) := setRow_heap w.drew g cur cur1 166 (0, 0) hg
  have hl1 : cur1.toList.length = cap * 2 := by
    rw [hcur1]
    simp only [List.length_append, List.length_drop, List.length_take, hcl]
    omega
  have hcp2 : ∀ ty, (Builtin.copy_ #[35, 35] ty #[.slice (some ⟨g, i * 2, none⟩) (n + 1 - i) (cap - i), .slice (some ⟨vb, 0, none⟩) 1 vc]).run Tryz.prog (w.drew.setRow g cur1) = .ok (goInt (Nat.min 1 (n + 1 - i))) ((w.drew.setRow g cur1).setRow g (cur1.toList.take (i * 2) ++ vs ++ cur1.toList.drop (i * 2 + vs.length)).toArray) := fun ty =>
    run_copy_row_k (w.drew.setRow g cur1) 35 35 ty 166 2 g (i * 2) _ _ ⟨vb, 0, none⟩ _ _ cur1 166 vs Tryz.underlying35 hszK hg1
      (by rw [hvl, show Nat.min 1 (n + 1 - i) = 1 by simp only [Nat.min_def]; split <;> omega])
      (fun j u hj => by
        rw [Addr.add_lit, cell_setRow_other _ _ _ _ hne]
        exact hvs j u hj)
      (by rw [hvl]; have : cur1.size = cap * 2 := by simpa using hl1
          omega)
      h1v
  have hfin : ∃ cur', (w.drew.setRow g cur1).setRow g (cur1.toList.take (i * 2) ++ vs ++ cur1.toList.drop (i * 2 + vs.length)).toArray = w.drew.setRow g cur' ∧ cur'.size = cap * 2 ∧ cur'.toList.take ((n + 1) * 2) = (cur.toList.take (n * 2)).take (i * 2) ++ vs ++ (cur.toList.take (n * 2)).drop (i * 2) := by
    refine ⟨_, setRow_setRow _ _ _ _, ?_, ?_⟩
    · simp only [List.size_toArray, List.length_append, List.length_take, List.length_drop, hl1, hvl]; omega
    · have e1 : cur1.toList = cur.toList.take ((i + 1) * 2) ++ (cur.toList.take (n * 2)).drop (i * 2) ++ cur.toList.drop ((i + 1) * 2 + ((cur.toList.take (n * 2)).drop (i * 2)).length) := by rw [hcur1]
      have a1 : (cur.toList.take ((i + 1) * 2)).length = (i + 1) * 2 := by rw [List.length_take, hcl]; omega
      have e2 : cur1.toList.take (i * 2) = (cur.toList.take (n * 2)).take (i * 2) := by
        rw [e1, List.append_assoc, List.take_append_of_le_length (by rw [a1]; omega), List.take_take, List.take_take]
        congr 1; omega
      have e3 : (cur1.toList.drop (i * 2 + vs.length)).take ((n - i) * 2) = (cur.toList.take (n * 2)).drop (i * 2) := by
        rw [e1, hvl, show i * 2 + 2 = (i + 1) * 2 by omega, List.append_assoc, List.drop_append_of_le_length (by rw [a1]; omega), List.drop_of_length_le (by rw [a1]; omega), List.nil_append, List.take_append_of_le_length (by rw [hfl]; omega), List.take_of_length_le (by rw [hfl]; omega)]
      have l2 : (cur1.toList.take (i * 2) ++ vs).length = (i + 1) * 2 := by rw [List.length_append, List.length_take, hl1, hvl]; omega
      show (cur1.toList.take (i * 2) ++ vs ++ cur1.toList.drop (i * 2 + vs.length)).take ((n + 1) * 2) = _
      rw [List.take_append, l2, List.take_of_length_le (by rw [l2]; omega), show (n + 1) * 2 - (i + 1) * 2 = (n - i) * 2 by omega, e3, e2]
  clear hcur1 hl1 hg1 hfl hcl
  go_enter Tryz.func117, Tryz.ntmps117
  go_wp2_with (simp only [hov])
  go_region_law_o (refine step_copy_row rfl _ _ 35 35 rfl (.slice (some ⟨g, (i + 1) * 2, none⟩) (n + 1 - (i + 1)) (cap - (i + 1))) (.slice (some ⟨g, i * 2, none⟩) (n + 1 - i) (cap - i)) (by simp [Act.eval, Act.put]) (by simp [Act.eval, Act.put]) (hcp1 _) ?_)
  go_wp2_with (at_builtin; refine wpList_copy_row _ rfl _ _ 35 35 rfl _ _ rfl rfl (hcp2 _) ?_)
  go_ret
  exact ⟨rfl, by rw [hvl, List.append_assoc] at hfin; exact hfin⟩
set_option maxHeartbeats 4000000 in
set_option maxRecDepth 100000 in
theorem Tryz.ins117_grow (w : World) (g cap : Nat) (cur : Array Value) (n : Nat) (i : Nat) (vb vc : Nat) (vs : List Value) (hg : w.heap[g]? = some (.cells cur 166 (0, 0))) (hnc : n ≤ cap) (hroom : cap < n + 1) (hn : n ≤ 1000000) (hcur : cur.size = cap * 2) (hi : i < n)
  (hvw : vb < w.heap.size) (hvl : vs.length = 2) (hvs : ∀ j u, vs[j]? = some u → w.cell? ⟨vb, 0 + j, none⟩ = some u) (h1v : ∀ u ∈ vs, u.oneCell' = true) (h1 : ∀ u ∈ cur.toList.take (n * 2), u.oneCell' = true) :
  Calls Tryz.prog 117 #[.slice (some ⟨g, 0, none⟩) n cap, .int .i64 i, .slice (some ⟨vb, 0, none⟩) 1 vc] w fun e w' => ∃ (c2 : Nat) (row : Array Value), e = .returned (.slice (some ⟨w.heap.size, 0, none⟩) (n + 1) c2) ∧ (w'.heap[w.heap.size]? = some (.cells row 166 (0, 0)) ∧ w.grownBy w' none) ∧ w.drawn ≤ w'.drawn ∧ n + 1 ≤ c2 ∧ c2 ≤ maxLen ∧ row.size = c2 * 2 ∧ row.toList.take ((n + 1) * 2) = (cur.toList.take (n * 2)).take (i * 2) ++ vs ++ (cur.toList.take (n * 2)).drop (i * 2) := by
 obtain ⟨i0, z, hi0, hz, hsz, hby, hzs⟩ := Tryz.insInfo166
 have mixed : Tryz.prog.follows .mixedOrders = true := by kernel_rfl
 have hszK : (Tryz.prog.info? 166).map (·.size) = some 2 := by rw [hi0]; simp [hsz]
 have hz2 : ¬ ((i : Int) = (n : Int)) := by omega
 have hz3 : (cap : Int) < (n : Int) + 1 := by omega
 have hbw : g < w.heap.size := (Array.getElem?_eq_some_iff.1 hg).1
 have hkk : (n : Int) + 1 - (i : Int) = ((n + 1 - i : Nat) : Int) := by omega
 have hik : i + (n + 1 - i) = n + 1 := by omega
 have hcl : cur.toList.length = cap * 2 := by simpa using hcur
 have hold : (Builtin.firstCells i0.size i (.slice (some ⟨g, 0, none⟩) i cap)).run Tryz.prog w.drew = .ok (cur.toList.take (i * 2)).toArray w.drew := by
  rw [hsz]
  exact run_firstCells_some w.drew 2 i ⟨g, 0, none⟩ i cap (cur.toList.take (i * 2)) (by rw [List.length_take, hcl]; omega) (fun j v hj => by
   rw [Addr.add_lit]
   rw [List.getElem?_take] at hj
   split at hj
   ·show w.cell? _ = some v
    simp only [World.cell?, hg]
    simpa using hj
   ·cases hj)
 have hrz : ∀ ty, (Builtin.append_ #[35, 3] ty #[.slice (some ⟨g, 0, none⟩) i cap, .int .i64 ((n : Int) + 1 - (i : Int))]).run Tryz.prog w =
   .ok (.slice (some ⟨w.heap.size, 0, none⟩) (n + 1) (grownCap w (n + 1) cap 166)) (w.drew.alloc (.cells ((cur.toList.take (i * 2)).toArray ++ Builtin.zeroCells z.cells (n + 1 - i) ++ Builtin.zeroCells z.cells (grownCap w (n + 1) cap 166 - (n + 1))) 166)) := fun ty => by
  have h := Lib.run_append_grow_zeros w 35 3 ty 166 i0 z .i64 .i64 Tryz.underlying35 Tryz.underlying3 hi0 hz (some ⟨g, 0, none⟩) i cap (cur.toList.take (i * 2)) hold (n + 1 - i) (by omega) (by omega) (by omega) (by omega) (by rw [hby]; omega) (by rw [hby, hik]; exact growslice_fits hroom (by omega))
  rw [hik] at h
  rw [hkk]
  exact h
 obtain ⟨G, hG⟩ : ∃ G, G = grownCap w (n + 1) cap 166 := ⟨_, rfl⟩
 obtain ⟨ROW, hROW⟩ : ∃ ROW : Array Value, ROW = (cur.toList.take (i * 2)).toArray ++ Builtin.zeroCells z.cells (n + 1 - i) ++ Builtin.zeroCells z.cells (G - (n + 1)) := ⟨_, rfl⟩
 rw [← hG] at hrz
 rw [← hROW] at hrz
 have hGn : n + 1 ≤ G := by rw [hG]; exact grownCap_ge w _ _ _
 have hGm : G ≤ maxLen := by rw [hG]; exact grownCap_le_maxLen w (n + 1) cap 166 (by unfold maxLen; omega)
 have hzc : ∀ m, (Builtin.zeroCells z.cells m).size = m * 2 := fun m => by simp [Builtin.zeroCells, hzs]
 have hRs : ROW.size = G * 2 := by
  rw [hROW]
  simp only [Array.size_append, hzc, List.size_toArray, List.length_take, hcl]
  omega
 obtain ⟨W1, hW1⟩ : ∃ W1, W1 = w.drew.alloc (.cells ROW 166) := ⟨_, rfl⟩
 rw [← hW1] at hrz
 have hg1 : W1.heap[w.heap.size]? = some (.cells ROW 166 (0, 0)) := by rw [hW1]; exact heap_alloc_new w.drew _
 have hfl : ((cur.toList.take (n * 2)).drop (i * 2)).length = (n - i) * 2 := by
  rw [List.length_drop, List.length_take, hcl, Nat.sub_mul]; omega
 have hRl : ROW.toList.length = G * 2 := by simpa using hRs
 have hcpA : ∀ (W : World), W.heap = W1.heap → ∀ ty dc, (Builtin.copy_ #[35, 35] ty #[.slice (some ⟨w.heap.size, i * 2, none⟩) (n + 1 - i) dc, .slice (some ⟨vb, 0, none⟩) 1 vc]).run Tryz.prog W = .ok (goInt (Nat.min 1 (n + 1 - i))) (W.setRow w.heap.size (ROW.toList.take (i * 2) ++ vs ++ ROW.toList.drop (i * 2 + vs.length)).toArray) := fun W hW ty dc =>
  run_copy_row_k W 35 35 ty 166 2 w.heap.size (i * 2) _ _ ⟨vb, 0, none⟩ _ _ ROW 166 vs Tryz.underlying35 hszK (by rw [hW]; exact hg1)
   (by rw [hvl, show Nat.min 1 (n + 1 - i) = 1 by simp only [Nat.min_def]; split <;> omega])
   (fun j u hj => by
    rw [Addr.add_lit]
    have := hvs j u hj
    have e : W.heap[vb]? = w.heap[vb]? := by
     rw [hW, hW1]
     show (w.drew.heap.push _)[vb]? = _
     rw [Array.getElem?_push]
     split
     ·rename_i q; exact absurd q (by show ¬ vb = w.heap.size; omega)
     ·rfl
    simp only [World.cell?, e] at this ⊢
    exact this)
   (by rw [hvl, hRs]; omega)
   h1v
 obtain ⟨R2, hR2⟩ : ∃ R2 : Array Value, R2 = (ROW.toList.take (i * 2) ++ vs ++ ROW.toList.drop (i * 2 + vs.length)).toArray := ⟨_, rfl⟩
 rw [← hR2] at hcpA
 have hR2s : R2.size = G * 2 := by
  rw [hR2]
  simp only [List.size_toArray, List.length_append, List.length_take, List.length_drop, hRl, hvl]; omega
 have hR2l : R2.toList.length = G * 2 := by simpa using hR2s
 have hcpB : ∀ (W : World), W.heap = (W1.setRow w.heap.size R2).heap → ∀ ty dc sc, (Builtin.copy_ #[35, 35] ty #[.slice (some ⟨w.heap.size, (i + 1) * 2, none⟩) (n + 1 - (i + 1)) dc, .slice (some ⟨g, i * 2, none⟩) (n - i) sc]).run Tryz.prog W = .ok (goInt (Nat.min (n - i) (n + 1 - (i + 1)))) (W.setRow w.heap.size (R2.toList.take ((i + 1) * 2) ++ (cur.toList.take (n * 2)).drop (i * 2) ++ R2.toList.drop ((i + 1) * 2 + ((cur.toList.take (n * 2)).drop (i * 2)).length)).toArray) := fun W hW ty dc sc =>
  run_copy_row_k W 35 35 ty 166 2 w.heap.size ((i + 1) * 2) _ _ ⟨g, i * 2, none⟩ _ _ R2 166 ((cur.toList.take (n * 2)).drop (i * 2)) Tryz.underlying35 hszK (by rw [hW]; exact setRow_heap W1 w.heap.size ROW R2 166 (0, 0) hg1)
   (by rw [hfl]; congr 1; simp only [Nat.min_def]; split <;> omega)
   (fun j u hj => by
    rw [Addr.add_lit]
    have e : W.heap[g]? = some (.cells cur 166 (0, 0)) := by
     rw [hW, setRow_other _ _ _ _ (by omega), hW1]
     show (w.drew.heap.push _)[g]? = _
     rw [Array.getElem?_push]
     split
     ·rename_i q; exact absurd q (by show ¬ g = w.heap.size; omega)
     ·exact hg
    rw [List.getElem?_drop, List.getElem?_take] at hj
    split at hj
    ·simp only [World.cell?, e]
     simpa using hj
    ·cases hj)
   (by rw [hfl, hR2s]; omega)
   (fun u hu => h1 u (List.mem_of_mem_drop hu))
 obtain ⟨R3, hR3⟩ : ∃ R3 : Array Value, R3 = (R2.toList.take ((i + 1) * 2) ++ (cur.toList.take (n * 2)).drop (i * 2) ++ R2.toList.drop ((i + 1) * 2 + ((cur.toList.take (n * 2)).drop (i * 2)).length)).toArray := ⟨_, rfl⟩
 rw [← hR3] at hcpB
 have hR3s : R3.size = G * 2 := by
  rw [hR3]
  simp only [List.size_toArray, List.length_append, List.length_take, List.length_drop, hR2l, hcl]; omega
 have hfin : R3.toList.take ((n + 1) * 2) = (cur.toList.take (n * 2)).take (i * 2) ++ vs ++ (cur.toList.take (n * 2)).drop (i * 2) := by
  have a1 : (cur.toList.take (i * 2)).length = i * 2 := by rw [List.length_take, hcl]; omega
  have e1 : ROW.toList.take (i * 2) = (cur.toList.take (n * 2)).take (i * 2) := by
   rw [hROW, Array.append_assoc]
   simp only [Array.toList_append]
   rw [List.take_append_of_le_length (by rw [a1]; omega), List.take_of_length_le (by rw [a1]; omega), List.take_take]
   congr 1; omega
  have e2 : R2.toList.take ((i + 1) * 2) = (cur.toList.take (n * 2)).take (i * 2) ++ vs := by
   rw [hR2]
   show (ROW.toList.take (i * 2) ++ vs ++ ROW.toList.drop (i * 2 + vs.length)).take ((i + 1) * 2) = _
   rw [e1]
   have l2 : ((cur.toList.take (n * 2)).take (i * 2) ++ vs).length = (i + 1) * 2 := by rw [List.length_append, List.length_take, List.length_take, hcl, hvl]; omega
   rw [List.take_append_of_le_length (by rw [l2]; omega), List.take_of_length_le (by rw [l2]; omega)]
  have l3 : (R2.toList.take ((i + 1) * 2) ++ (cur.toList.take (n * 2)).drop (i * 2)).length = (n + 1) * 2 := by rw [List.length_append, List.length_take, hR2l, hfl]; omega
  rw [hR3]
  show (R2.toList.take ((i + 1) * 2) ++ (cur.toList.take (n * 2)).drop (i * 2) ++ R2.toList.drop _).take ((n + 1) * 2) = _
  rw [List.take_append_of_le_length (by rw [l3]; omega), List.take_of_length_le (by rw [l3]; omega), e2]
 have hend : ∀ W : World, W.heap = ((W1.setRow w.heap.size R2).setRow w.heap.size R3).heap → W.os = w.os → W.tape = w.tape → W.output = w.output → W.heap[w.heap.size]? = some (.cells R3 166 (0, 0)) ∧ w.grownBy W none := by
  intro W hW h1 h2 h3
  refine ⟨by rw [hW]; exact setRow_heap _ _ R2 R3 166 (0, 0) (setRow_heap W1 w.heap.size ROW R2 166 (0, 0) hg1), h1, h2, h3, ?_, fun k hk _ => ?_⟩
  ·rw [hW, setRow_size, setRow_size, hW1]
   show w.heap.size ≤ (w.drew.heap.push _).size
   rw [Array.size_push]
   exact Nat.le_succ _
  ·rw [hW, setRow_other _ _ _ _ (by omega), setRow_other _ _ _ _ (by omega), hW1]
   show (w.drew.heap.push _)[k]? = _
   rw [Array.getElem?_push]
   split
   ·rename_i q; exact absurd q (by show ¬ k = w.heap.size; omega)
   ·rfl
 have hG63 : G ≤ 9223372036854775807 := by unfold maxLen at hGm; omega
 have hGi : ¬ (G = i) := by omega
 have hGim : ¬ (G = i + 1) := by omega
 have hci : ¬ (cap = i) := by omega
 have hw1 : IntKind.i64.wrap ((i : Int) + 1) = (i : Int) + 1 := by rw [IntKind.wrap_i64]; omega
 have hb1 : (0 : Int) ≤ (i : Int) + 1 := by omega
 have hin : i ≤ n := by omega
 have htn : ((i : Int) + 1).toNat = i + 1 := by omega
 have hb3 : (i : Int) ≤ (n : Int) := by omega
 clear hkk hik hold hROW hG hRl hcl hfl hR2 hR3 hR2s hR2l hRs
 subst hW1
 have hF : ((((w.alloc (.cells ROW 166)).drew).setRow w.heap.size R2).drew).heap = ((w.drew.alloc (.cells ROW 166)).setRow w.heap.size R2).heap := rfl
 go_enter Tryz.func117, Tryz.ntmps117
 go_wp2_with (at_builtin; refine Lib.wpList_append_run _ rfl _ _ _ _ rfl _ _ rfl rfl _ _ (hrz _) ?_)
 rw [hcpA ((w.alloc (.cells ROW 166)).drew) rfl 3 (G - i)]
 go_wp2
 go_region_law_o (refine step_copy_row rfl _ _ 35 35 rfl (.slice (some ⟨w.heap.size, (i + 1) * 2, none⟩) (n + 1 - (i + 1)) (G - (i + 1))) (.slice (some ⟨g, i * 2, none⟩) (n - i) (cap - i)) (by simp [Act.eval, Act.put]) (by simp [Act.eval, Act.put]) (hcpB ((((w.alloc (.cells ROW 166)).drew).setRow w.heap.size R2).drew) hF _ _ _) ?_)
 go_wp2
 go_ret
 exact ⟨G, R3, rfl, hend _ rfl rfl rfl rfl, by show w.drawn ≤ w.drawn + 1 + 1; omega, hGn, hGm, hR3s, hfin⟩
theorem Tryz.ins117 (w : World) (B : Nat) (v : Value) (n : Nat) (flat : List Value) (i vb vc : Nat) (vcur : Array Value) (vs : List Value) (hB : B ≤ w.heap.size) (ho : w.ownsRow B 166 2 v n flat) (hi : i ≤ n) (hn : n ≤ 1000000)
  (hv : w.heap[vb]? = some (.cells vcur 166 (0, 0))) (hne : v.ownBlock ≠ some vb) (hvl : vs.length = 2) (hvs : ∀ j u, vs[j]? = some u → w.cell? ⟨vb, 0 + j, none⟩ = some u) (h1v : ∀ u ∈ vs, u.oneCell' = true) (h1 : ∀ u ∈ flat, u.oneCell' = true) :
  Calls Tryz.prog 117 #[v, .int .i64 i, .slice (some ⟨vb, 0, none⟩) 1 vc] w fun e w' => ∃ u, e = .returned u ∧ w'.ownsRow B 166 2 u (n + 1) (flat.take (i * 2) ++ vs ++ flat.drop (i * 2)) ∧ w.grownBy w' v.ownBlock ∧ (u.ownBlock = v.ownBlock ∨ u.ownBlock = some w.heap.size) ∧ w.drawn ≤ w'.drawn := by
 by_cases hin : i = n
 ·subst hin
  rw [List.take_of_length_le (by rw [ho.1]; omega), List.drop_of_length_le (by rw [ho.1]; omega), List.append_nil]
  exact Tryz.ins117_end w B v i flat vb vc vs hB ho hn hvl hvs h1v
 have hl := ho.1
 rcases ho.2 with ⟨_, h0⟩ | ⟨g, cap, cur, rfl, hBg, hg, hnc, hcm, hcur, htk⟩
 ·omega
 have hne : vb ≠ g := fun e => hne (by rw [e]; rfl)
 have hgl : g < w.heap.size := (Array.getElem?_eq_some_iff.1 hg).1
 subst htk
 have hflat : ∀ A B C : List Value, A = (cur.toList.take (n * 2)).take (i * 2) → C = (cur.toList.take (n * 2)).drop (i * 2) → (A ++ vs ++ C).length = (n + 1) * 2 := by
  rintro A B C rfl rfl
  rw [List.length_append, List.length_append, List.length_take, List.length_drop, hl, hvl]; omega
 by_cases hroom : n + 1 ≤ cap
 ·refine (Tryz.ins117_shift w g cap cur n i vb vc vcur vs hg hroom hcm hcur (by omega) hv hne hvl hvs h1v h1).mono ?_
  rintro e w' ⟨rfl, cur', rfl, h2, h3⟩
  refine ⟨_, rfl, ⟨hflat _ [] _ rfl rfl, .inr ⟨g, cap, cur', rfl, hBg, setRow_heap w.drew g cur cur' 166 (0, 0) hg, hroom, hcm, h2, by first | exact h3 | (rw [Nat.mul_one i]; exact h3)⟩⟩, ⟨rfl, rfl, rfl, by rw [setRow_size]; exact Nat.le_refl _, fun k _ hk => ?_⟩, .inl rfl, Nat.le_succ _⟩
  exact setRow_other _ _ _ _ fun e => hk (by rw [e]; rfl)
 ·refine (Tryz.ins117_grow w g cap cur n i vb vc vs hg hnc (by omega) hn hcur (by omega) (Array.getElem?_eq_some_iff.1 hv).1 hvl hvs h1v h1).mono ?_
  rintro e w' ⟨c2, row, rfl, ⟨hr, hgr⟩, hd, h2, h3, h4, h5⟩
  exact ⟨_, rfl, ⟨hflat _ [] _ rfl rfl, .inr ⟨w.heap.size, c2, row, rfl, hB, hr, h2, h3, h4, by first | exact h5 | (rw [Nat.mul_one i]; exact h5)⟩⟩, ⟨hgr.os, hgr.tape, hgr.output, hgr.size, fun k hk _ => hgr.block k hk (by simp)⟩, .inr rfl, hd⟩
end Go.Proofs

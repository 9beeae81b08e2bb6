/- The laying of strconv.Atoi at this dump, and the walk of the integers of a text: part of the proof. -/
import Derived.Shelf.LaysC
import Derived.Shelf.Strconv.AtoiAll
import Derived.Shelf.Strconv.ErrVarAll
import Derived.Ground.Names2Prog
import Derived.Ground.NamesProg
import Derived.Test.YtacaadhlobbemaaGreatDoorProg
import Derived.Test.YtacaadhlobbemaaGreatDoorShelf
import Derived.WalkKit
namespace Go.Proofs
open Go.Shelf Go.RowKit Go.Lib
def Tryz.laysAtoi_ren : Go.Shelf.Ren := ⟨fun | 172 => 212 | 244 => 223 | 245 => 224 | 247 => 234 | 279 => 235 | 280 => 236 | 281 => 237 | 282 => 238 | 287 => 243 | 316 => 244 | 171 => 171 | 205 => 245 | 321 => 246 | 322 => 247 | 243 => 192 | 246 => 207 | 283 => 215 | 284 => 216 | 285 => 217 | 286 => 218 | 129 => 188 | 317 => 226 | 318 => 227 | 319 => 228 | 320 => 229 | 337 => 240 | 338 => 241 | n => n, fun | 9 => 9 | 3 => 3 | 75 => 253 | 76 => 254 | 4 => 4 | 5 => 5 | 167 => 310 | 37 => 248 | 0 => 0 | 85 => 311 | 2 => 2 | 168 => 313 | 53 => 278 | 175 => 322 | 46 => 243 | 210 => 326 | 127 => 280 | 145 => 333 | 143 => 331 | 21 => 21 | 171 => 299 | 173 => 301 | 212 => 308 | 51 => 276 | 20 => 20 | 213 => 309 | 232 => 328 | 233 => 329 | 80 => 226 | n => n, fun | 15 => 4 | 16 => 5 | 17 => 1 | 18 => 6 | 19 => 7 | n => n⟩
theorem Tryz.laysAtoi : Go.Proofs.LaysC.n172 Tryz.prog Tryz.laysAtoi_ren := {
  mixed := by kernel_rfl
  f129 := Tryz.func188.trans (congrArg some (by kernel_rfl))
  f171 := Tryz.func171.trans (congrArg some (by kernel_rfl))
  f172 := Tryz.func212.trans (congrArg some (by kernel_rfl))
  f205 := Tryz.func245.trans (congrArg some (by kernel_rfl))
  f243 := Tryz.func192.trans (congrArg some (by kernel_rfl))
  f244 := Tryz.func223.trans (congrArg some (by kernel_rfl))
  f245 := Tryz.func224.trans (congrArg some (by kernel_rfl))
  f246 := Tryz.func207.trans (congrArg some (by kernel_rfl))
  f247 := Tryz.func234.trans (congrArg some (by kernel_rfl))
  f279 := Tryz.func235.trans (congrArg some (by kernel_rfl))
  f280 := Tryz.func236.trans (congrArg some (by kernel_rfl))
  f281 := Tryz.func237.trans (congrArg some (by kernel_rfl))
  f282 := Tryz.func238.trans (congrArg some (by kernel_rfl))
  f283 := Tryz.func215.trans (congrArg some (by kernel_rfl))
  f284 := Tryz.func216.trans (congrArg some (by kernel_rfl))
  f285 := Tryz.func217.trans (congrArg some (by kernel_rfl))
  f286 := Tryz.func218.trans (congrArg some (by kernel_rfl))
  f287 := Tryz.func243.trans (congrArg some (by kernel_rfl))
  f316 := Tryz.func244.trans (congrArg some (by kernel_rfl))
  f317 := Tryz.func226.trans (congrArg some (by kernel_rfl))
  f318 := Tryz.func227.trans (congrArg some (by kernel_rfl))
  f319 := Tryz.func228.trans (congrArg some (by kernel_rfl))
  f320 := Tryz.func229.trans (congrArg some (by kernel_rfl))
  f321 := Tryz.func246.trans (congrArg some (by kernel_rfl))
  f322 := Tryz.func247.trans (congrArg some (by kernel_rfl))
  f337 := Tryz.func240.trans (congrArg some (by kernel_rfl))
  f338 := Tryz.func241.trans (congrArg some (by kernel_rfl))
  t0 := Tryz.underlying0
  a0 := Tryz.isAgg0
  z0 := Tryz.sizeOf0
  v0 := Tryz.zeroValue0
  t2 := Tryz.underlying2
  a2 := Tryz.isAgg2
  z2 := Tryz.sizeOf2
  v2 := Tryz.zeroValue2
  t3 := Tryz.underlying3
  a3 := Tryz.isAgg3
  z3 := Tryz.sizeOf3
  v3 := Tryz.zeroValue3
  t4 := Tryz.underlying4
  a4 := Tryz.isAgg4
  z4 := Tryz.sizeOf4
  v4 := Tryz.zeroValue4
  t5 := Tryz.underlying5
  a5 := Tryz.isAgg5
  z5 := Tryz.sizeOf5
  v5 := Tryz.zeroValue5
  t9 := Tryz.underlying9
  a9 := Tryz.isAgg9
  z9 := Tryz.sizeOf9
  v9 := Tryz.zeroValue9
  t20 := Tryz.underlying20
  a20 := Tryz.isAgg20
  z20 := Tryz.sizeOf20
  v20 := Tryz.zeroValue20
  t21 := Tryz.underlying21
  a21 := Tryz.isAgg21
  z21 := Tryz.sizeOf21
  v21 := Tryz.zeroValue21
  t37 := Tryz.underlying248
  a37 := Tryz.isAgg248
  z37 := Tryz.sizeOf248
  v37 := Tryz.zeroValue248
  t46 := Tryz.underlying243
  a46 := Tryz.isAgg243
  z46 := Tryz.sizeOf243
  v46 := Tryz.zeroValue243
  t51 := Tryz.underlying276
  a51 := Tryz.isAgg276
  z51 := Tryz.sizeOf276
  v51 := Tryz.zeroValue276
  t53 := Tryz.underlying278
  a53 := Tryz.isAgg278
  z53 := Tryz.sizeOf278
  v53 := Tryz.zeroValue278
  t75 := Tryz.underlying253
  a75 := Tryz.isAgg253
  z75 := Tryz.sizeOf253
  v75 := Tryz.zeroValue253
  t76 := Tryz.underlying254
  a76 := Tryz.isAgg254
  z76 := Tryz.sizeOf254
  v76 := Tryz.zeroValue254
  t85 := Tryz.underlying311
  a85 := Tryz.isAgg311
  z85 := Tryz.sizeOf311
  v85 := Tryz.zeroValue311
  t127 := Tryz.underlying280
  a127 := Tryz.isAgg280
  z127 := Tryz.sizeOf280
  v127 := Tryz.zeroValue280
  t143 := Tryz.underlying331
  a143 := Tryz.isAgg331
  z143 := Tryz.sizeOf331
  v143 := Tryz.zeroValue331
  t145 := Tryz.underlying333
  a145 := Tryz.isAgg333
  z145 := Tryz.sizeOf333
  v145 := Tryz.zeroValue333
  t167 := Tryz.underlying310
  a167 := Tryz.isAgg310
  z167 := Tryz.sizeOf310
  v167 := Tryz.zeroValue310
  t168 := Tryz.underlying313
  a168 := Tryz.isAgg313
  z168 := Tryz.sizeOf313
  v168 := Tryz.zeroValue313
  t171 := Tryz.underlying299
  a171 := Tryz.isAgg299
  z171 := Tryz.sizeOf299
  v171 := Tryz.zeroValue299
  t173 := Tryz.underlying301
  a173 := Tryz.isAgg301
  z173 := Tryz.sizeOf301
  v173 := Tryz.zeroValue301
  t175 := Tryz.underlying322
  a175 := Tryz.isAgg322
  z175 := Tryz.sizeOf322
  v175 := Tryz.zeroValue322
  t210 := Tryz.underlying326
  a210 := Tryz.isAgg326
  z210 := Tryz.sizeOf326
  v210 := Tryz.zeroValue326
  t212 := Tryz.underlying308
  a212 := Tryz.isAgg308
  z212 := Tryz.sizeOf308
  v212 := Tryz.zeroValue308
  t213 := Tryz.underlying309
  a213 := Tryz.isAgg309
  z213 := Tryz.sizeOf309
  t232 := Tryz.underlying328
  a232 := Tryz.isAgg328
  z232 := Tryz.sizeOf328
  v232 := Tryz.zeroValue328
  t233 := Tryz.underlying329
  a233 := Tryz.isAgg329
  z233 := Tryz.sizeOf329
  v233 := Tryz.zeroValue329
  g15 := by kernel_rfl
  g16 := by kernel_rfl
  g17 := by kernel_rfl
  g18 := by kernel_rfl
  g19 := by kernel_rfl
  t80 := Tryz.underlying226
  a80 := Tryz.isAgg226
  z80 := Tryz.sizeOf226
  v80 := Tryz.zeroValue226
  i0 := by kernel_rfl
  i2 := by kernel_rfl
  i3 := by kernel_rfl
  i4 := by kernel_rfl
  i5 := by kernel_rfl
  i9 := by kernel_rfl
  i20 := by kernel_rfl
  i21 := by kernel_rfl
  i37 := by kernel_rfl
  i46 := by kernel_rfl
  i51 := by kernel_rfl
  i53 := by kernel_rfl
  i75 := by kernel_rfl
  i76 := by kernel_rfl
  i80 := by kernel_rfl
  i85 := by kernel_rfl
  i127 := by kernel_rfl
  i143 := by kernel_rfl
  i145 := by kernel_rfl
  i167 := by kernel_rfl
  i168 := by kernel_rfl
  i171 := by kernel_rfl
  i173 := by kernel_rfl
  i175 := by kernel_rfl
  i210 := by kernel_rfl
  i212 := by kernel_rfl
  i232 := by kernel_rfl
  i233 := by kernel_rfl
  m15 := by kernel_rfl
  m16 := by kernel_rfl
  m17 := by kernel_rfl
  m18 := by kernel_rfl
  m19 := by kernel_rfl
  c0 := by kernel_rfl
  c2 := by kernel_rfl
  c3 := by kernel_rfl
  c4 := by kernel_rfl
  c5 := by kernel_rfl
  c9 := by kernel_rfl
  c20 := by kernel_rfl
  c21 := by kernel_rfl
  c37 := by kernel_rfl
  c46 := by kernel_rfl
  c51 := by kernel_rfl
  c53 := by kernel_rfl
  c75 := by kernel_rfl
  c76 := by kernel_rfl
  c80 := by kernel_rfl
  c85 := by kernel_rfl
  c127 := by kernel_rfl
  c143 := by kernel_rfl
  c145 := by kernel_rfl
  c167 := by kernel_rfl
  c168 := by kernel_rfl
  c171 := by kernel_rfl
  c173 := by kernel_rfl
  c175 := by kernel_rfl
  c210 := by kernel_rfl
  c212 := by kernel_rfl
  c213 := by kernel_rfl
  c232 := by kernel_rfl
  c233 := by kernel_rfl }
def Tryz.intN (s : ByteArray) : Int := match Lib.atoiAll s.data.toList with
  | .ok v => v
  | .range => Lib.atoiSat s.data.toList
  | _ => 0
theorem Tryz.below_then {w w1 w2 : World} (h1 : Below w.heap.size w w1) (h2 : Below w1.heap.size w1 w2) : Below w.heap.size w w2 :=
  h1.trans ⟨h2.os, h2.tape, h2.output, h2.size, fun k hk => h2.block k (Nat.lt_of_lt_of_le hk h1.size)⟩
set_option maxHeartbeats 4000000 in
theorem Tryz.integer196_ok (s t u : ByteArray) (v : Int) (w : World) (hA : Calls Tryz.prog 212 #[.string s] w fun e w' => e = .returned (.tuple #[.int .i64 v, .nilIface]) ∧ Below w.heap.size w w')
    (hI : ∀ w', Below w.heap.size w w' → Calls Tryz.prog 171 #[.int .i64 v] w' fun e w2 => e = .returned (.string t) ∧ Below w'.heap.size w' w2)
    (hT : ∀ w', Below w.heap.size w w' → Calls Tryz.prog 213 #[.string s, .string ⟨#[45]⟩] w' fun e w2 => e = .returned (.string u) ∧ Below w'.heap.size w' w2) :
    Calls Tryz.prog 196 #[.string s] w fun e w' => e = .returned (.tuple #[.int .i64 v, .bool ((t.toList == s.toList) && decide ((u.size : Int) ≤ 9))]) ∧ Below w.heap.size w w' := by
  go_enter Tryz.func196, Tryz.ntmps196
  go_wp2_with (go_at_call 212; refine hA.mono ?_; rintro e w' ⟨rfl, hw⟩)
  go_wp2_with (go_at_call 171; refine (hI _ hw).mono ?_; rintro e w1 ⟨rfl, h1⟩)
  have hw1 := Tryz.below_then hw h1
  go_wp2_with (go_at_call 213; refine (hT _ hw1).mono ?_; rintro e w2 ⟨rfl, h2⟩)
  · have hw2 := Tryz.below_then hw1 h2
    go_wp2
    go_ret2
    have hb : (t.toList == s.toList) = true := by simpa using ‹t.toList = s.toList›
    rw [hb]
    exact ⟨rfl, hw2⟩
  · go_ret2
    have hb : (t.toList == s.toList) = false := by simpa using ‹¬ t.toList = s.toList›
    rw [hb]
    exact ⟨rfl, Tryz.below_then hw h1⟩
set_option maxHeartbeats 4000000 in
theorem Tryz.integer196_err (s : ByteArray) (v : Int) (te : TypeId) (w : World) (hA : Calls Tryz.prog 212 #[.string s] w fun e w' => ∃ pe, e = .returned (.tuple #[.int .i64 v, .iface te pe]) ∧ Below w.heap.size w w') :
    Calls Tryz.prog 196 #[.string s] w fun e w' => e = .returned (.tuple #[.int .i64 v, .bool false]) ∧ Below w.heap.size w w' := by
  go_enter Tryz.func196, Tryz.ntmps196
  go_wp2_with (go_at_call 212; refine hA.mono ?_; rintro e w' ⟨pe, rfl, hw⟩)
  go_ret2
  exact ⟨rfl, hw⟩
end Go.Proofs

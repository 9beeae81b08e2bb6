/- Library functions at this program: part of the proof. -/
import Derived.Test.YtdpcaknnhcnkpaaGreatProg
import Derived.Test.YtdpcaknnhcnkpaaGreatSxC
import Derived.Ground.Names2Prog
import Derived.Shelf.Slices.Clone
import Derived.Shelf.SlSortCmp.WholeK
import Derived.Shelf.SlSortCmp.NoneTotal
import Derived.Shelf.SlicesG.Cmp
import Derived.Shelf.Spec.SlicesGrow
import Derived.Ground.SlsfProg
import Derived.Ground.SlgcProg
import Derived.Ground.Names8Prog
import Derived.WalkKit
set_option linter.unusedSimpArgs false
set_option linter.unusedVariables false
namespace Go.Proofs
open Go.Shelf
def Tryz.laysCl16_ren:Go.Shelf.Ren:=⟨fun|16=>139|n=>n,fun|24=>65|9=>9|4=>4|n=>n,fun|n=>n⟩
theorem Tryz.laysCl16:Go.Proofs.Lays2.n16 Tryz.prog Tryz.laysCl16_ren:={
 mixed:=by kernel_rfl
 f16:=Tryz.func139.trans (congrArg some (by kernel_rfl))
 t4:=Tryz.underlying4
 a4:=Tryz.isAgg4
 z4:=Tryz.sizeOf4
 v4:=Tryz.zeroValue4
 t9:=Tryz.underlying9
 a9:=Tryz.isAgg9
 z9:=Tryz.sizeOf9
 v9:=Tryz.zeroValue9
 t24:=Tryz.underlying65
 a24:=Tryz.isAgg65
 z24:=Tryz.sizeOf65
 v24:=Tryz.zeroValue65
 i9:=by kernel_rfl}
def Tryz.laysCl15_ren:Go.Shelf.Ren:=⟨fun|15=>140|n=>n,fun|22=>28|3=>3|4=>4|n=>n,fun|n=>n⟩
theorem Tryz.laysCl15:Go.Proofs.Lays2.n15 Tryz.prog Tryz.laysCl15_ren:={
 mixed:=by kernel_rfl
 f15:=Tryz.func140.trans (congrArg some (by kernel_rfl))
 t3:=Tryz.underlying3
 a3:=Tryz.isAgg3
 z3:=Tryz.sizeOf3
 v3:=Tryz.zeroValue3
 t4:=Tryz.underlying4
 a4:=Tryz.isAgg4
 z4:=Tryz.sizeOf4
 v4:=Tryz.zeroValue4
 t22:=Tryz.underlying28
 a22:=Tryz.isAgg28
 z22:=Tryz.sizeOf28
 v22:=Tryz.zeroValue28
 i3:=by kernel_rfl}
def Tryz.sortO_ren:Go.Shelf.Ren:=⟨fun|6=>23|15=>56|14=>55|28=>89|29=>90|20=>81|21=>82|22=>83|23=>84|24=>85|25=>86|26=>87|27=>88|46=>126|47=>127|48=>128|49=>129|50=>130|57=>158|n=>n,fun|22=>27|24=>31|25=>76|3=>3|39=>130|0=>0|53=>178|55=>180|4=>4|46=>171|45=>170|50=>175|5=>5|9=>9|66=>190|70=>194|76=>219|77=>220|n=>n,fun|n=>n⟩
theorem Tryz.sortO:Go.Proofs.SlLaysF0.n6 Tryz.prog Tryz.sortO_ren:={
 mixed:=by kernel_rfl
 f6:=⟨Tryz.f23.name,by decide,Tryz.func23.trans (congrArg some (by kernel_rfl))⟩
 f14:=⟨Tryz.f55.name,by decide,Tryz.func55.trans (congrArg some (by kernel_rfl))⟩
 f15:=Tryz.func56.trans (congrArg some (by kernel_rfl))
 f20:=⟨Tryz.f81.name,by decide,Tryz.func81.trans (congrArg some (by kernel_rfl))⟩
 f21:=⟨Tryz.f82.name,by decide,Tryz.func82.trans (congrArg some (by kernel_rfl))⟩
 f22:=⟨Tryz.f83.name,by decide,Tryz.func83.trans (congrArg some (by kernel_rfl))⟩
 f23:=⟨Tryz.f84.name,by decide,Tryz.func84.trans (congrArg some (by kernel_rfl))⟩
 f24:=⟨Tryz.f85.name,by decide,Tryz.func85.trans (congrArg some (by kernel_rfl))⟩
 f25:=⟨Tryz.f86.name,by decide,Tryz.func86.trans (congrArg some (by kernel_rfl))⟩
 f26:=⟨Tryz.f87.name,by decide,Tryz.func87.trans (congrArg some (by kernel_rfl))⟩
 f27:=⟨Tryz.f88.name,by decide,Tryz.func88.trans (congrArg some (by kernel_rfl))⟩
 f28:=Tryz.func89.trans (congrArg some (by kernel_rfl))
 f29:=Tryz.func90.trans (congrArg some (by kernel_rfl))
 f46:=⟨Tryz.f126.name,by decide,Tryz.func126.trans (congrArg some (by kernel_rfl))⟩
 f47:=Tryz.func127.trans (congrArg some (by kernel_rfl))
 f48:=Tryz.func128.trans (congrArg some (by kernel_rfl))
 f49:=⟨Tryz.f129.name,by decide,Tryz.func129.trans (congrArg some (by kernel_rfl))⟩
 f50:=⟨Tryz.f130.name,by decide,Tryz.func130.trans (congrArg some (by kernel_rfl))⟩
 f57:=⟨Tryz.f158.name,by decide,Tryz.func158.trans (congrArg some (by kernel_rfl))⟩
 t0:=Tryz.underlying0
 a0:=Tryz.isAgg0
 z0:=Tryz.sizeOf0
 v0:=Tryz.zeroValue0
 t3:=Tryz.underlying3
 a3:=Tryz.isAgg3
 z3:=Tryz.sizeOf3
 v3:=Tryz.zeroValue3
 t4:=Tryz.underlying4
 a4:=Tryz.isAgg4
 z4:=Tryz.sizeOf4
 v4:=Tryz.zeroValue4
 t5:=Tryz.underlying5
 a5:=Tryz.isAgg5
 z5:=Tryz.sizeOf5
 v5:=Tryz.zeroValue5
 t9:=Tryz.underlying9
 a9:=Tryz.isAgg9
 z9:=Tryz.sizeOf9
 v9:=Tryz.zeroValue9
 t22:=Tryz.underlying27
 a22:=Tryz.isAgg27
 z22:=Tryz.sizeOf27
 v22:=Tryz.zeroValue27
 t25:=Tryz.underlying76
 a25:=Tryz.isAgg76
 z25:=Tryz.sizeOf76
 v25:=Tryz.zeroValue76
 t39:=Tryz.underlying130
 a39:=Tryz.isAgg130
 z39:=Tryz.sizeOf130
 v39:=Tryz.zeroValue130
 t45:=Tryz.underlying170
 a45:=Tryz.isAgg170
 z45:=Tryz.sizeOf170
 v45:=Tryz.zeroValue170
 t46:=Tryz.underlying171
 a46:=Tryz.isAgg171
 z46:=Tryz.sizeOf171
 v46:=Tryz.zeroValue171
 t50:=Tryz.underlying175
 a50:=Tryz.isAgg175
 z50:=Tryz.sizeOf175
 v50:=Tryz.zeroValue175
 t53:=Tryz.underlying178
 a53:=Tryz.isAgg178
 z53:=Tryz.sizeOf178
 v53:=Tryz.zeroValue178
 t55:=Tryz.underlying180
 a55:=Tryz.isAgg180
 z55:=Tryz.sizeOf180
 v55:=Tryz.zeroValue180
 t66:=Tryz.underlying190
 a66:=Tryz.isAgg190
 z66:=Tryz.sizeOf190
 v66:=Tryz.zeroValue190
 t70:=Tryz.underlying194
 a70:=Tryz.isAgg194
 z70:=Tryz.sizeOf194
 v70:=Tryz.zeroValue194
 t76:=Tryz.underlying219
 a76:=Tryz.isAgg219
 z76:=Tryz.sizeOf219
 v76:=Tryz.zeroValue219
 t77:=Tryz.underlying220
 a77:=Tryz.isAgg220
 z77:=Tryz.sizeOf220
 v77:=Tryz.zeroValue220}
def Tryz.cmpInt_ren:Go.Shelf.Ren:=⟨fun|5=>57|7=>91|n=>n,fun|22=>3|3=>3|4=>4|n=>n,fun|n=>n⟩
theorem Tryz.cmpInt:Go.Proofs.SlLaysC2.n5 Tryz.prog Tryz.cmpInt_ren:={
 mixed:=by kernel_rfl
 f5:=⟨Tryz.f57.name,by decide,Tryz.func57.trans (congrArg some (by kernel_rfl))⟩
 f7:=⟨Tryz.f91.name,by decide,Tryz.func91.trans (congrArg some (by kernel_rfl))⟩
 t3:=Tryz.underlying3
 a3:=Tryz.isAgg3
 z3:=Tryz.sizeOf3
 v3:=Tryz.zeroValue3
 t4:=Tryz.underlying4
 a4:=Tryz.isAgg4
 z4:=Tryz.sizeOf4
 v4:=Tryz.zeroValue4
 t22:=Tryz.underlying3
 a22:=Tryz.isAgg3
 z22:=Tryz.sizeOf3
 v22:=Tryz.zeroValue3}
def Tryz.growO_ren:Go.Shelf.Ren:=⟨fun|4=>54|n=>n,fun|22=>27|25=>31|3=>3|4=>4|9=>9|20=>20|0=>0|2=>3|n=>n,fun|n=>n⟩
theorem Tryz.growO:Go.Proofs.Lays8.n4 Tryz.prog Tryz.growO_ren:={
 mixed:=by kernel_rfl
 f4:=⟨Tryz.f54.name,by decide,Tryz.func54.trans (congrArg some (by kernel_rfl))⟩
 t0:=Tryz.underlying0
 a0:=Tryz.isAgg0
 z0:=Tryz.sizeOf0
 v0:=Tryz.zeroValue0
 t3:=Tryz.underlying3
 a3:=Tryz.isAgg3
 z3:=Tryz.sizeOf3
 v3:=Tryz.zeroValue3
 t4:=Tryz.underlying4
 a4:=Tryz.isAgg4
 z4:=Tryz.sizeOf4
 v4:=Tryz.zeroValue4
 t9:=Tryz.underlying9
 a9:=Tryz.isAgg9
 z9:=Tryz.sizeOf9
 v9:=Tryz.zeroValue9
 t20:=Tryz.underlying20
 a20:=Tryz.isAgg20
 z20:=Tryz.sizeOf20
 v20:=Tryz.zeroValue20
 t22:=Tryz.underlying27
 a22:=Tryz.isAgg27
 z22:=Tryz.sizeOf27
 v22:=Tryz.zeroValue27}
end Go.Proofs
namespace Go.Proofs
open Go.Shelf Go.RowKit Go.Lib
theorem Tryz.clone173 (b off n c:Nat) (zs:List ByteArray) (w:World) (hz:n≤zs.length) (hbig:n*16≤140737488355328) (hc:∀j,j<zs.length→w.cell? ⟨b,off+j,none⟩=some (.string (zs.getD j ⟨#[]⟩))):
  Calls Tryz.prog 139 #[.slice (some ⟨b,off,none⟩) n c] w fun e w'=>∃v',e= .returned v'∧w'.ownsRow w.heap.size 9 1 v' n ((zs.take n).map Value.string)∧v'≠ .slice none 0 0∧RowKit.Below w.heap.size w w':=Any.slices_Clone_string Tryz.laysCl16 b off n c zs w hz hbig hc
theorem Tryz.clone173_nil (n c:Nat) (w:World):
  Calls Tryz.prog 139 #[.slice none n c] w fun e w'=>e= .returned (.slice none 0 0)∧w'=w:=Any.slices_Clone_string_nil Tryz.laysCl16 n c w
theorem Tryz.clone173_zero (a:Addr) (c:Nat) (w:World):
  Calls Tryz.prog 139 #[.slice (some a) 0 c] w fun e w'=>∃v',e= .returned v'∧w'.ownsRow w.heap.size 9 1 v' 0 []∧v'≠ .slice none 0 0∧RowKit.Below w.heap.size w w':=Any.slices_Clone_string_zero Tryz.laysCl16 a c w
theorem Tryz.clone174 (b off n c:Nat) (zs:List Int) (w:World) (hz:n≤zs.length) (hbig:n*8≤140737488355328) (hc:∀j,j<zs.length→w.cell? ⟨b,off+j,none⟩=some (.int .i64 (zs.getD j 0))):
  Calls Tryz.prog 140 #[.slice (some ⟨b,off,none⟩) n c] w fun e w'=>∃v',e= .returned v'∧w'.ownsRow w.heap.size 3 1 v' n ((zs.take n).map (Value.int .i64))∧v'≠ .slice none 0 0∧RowKit.Below w.heap.size w w':=Any.slices_Clone_int Tryz.laysCl15 b off n c zs w hz hbig hc
theorem Tryz.clone174_nil (n c:Nat) (w:World):
  Calls Tryz.prog 140 #[.slice none n c] w fun e w'=>e= .returned (.slice none 0 0)∧w'=w:=Any.slices_Clone_int_nil Tryz.laysCl15 n c w
theorem Tryz.clone174_zero (a:Addr) (c:Nat) (w:World):
  Calls Tryz.prog 140 #[.slice (some a) 0 c] w fun e w'=>∃v',e= .returned v'∧w'.ownsRow w.heap.size 3 1 v' 0 []∧v'≠ .slice none 0 0∧RowKit.Below w.heap.size w w':=Any.slices_Clone_int_zero Tryz.laysCl15 a c w
end Go.Proofs
namespace Go.Proofs
open Go.Shelf Go.RowKit Go.Lib Go.Sort
def Tryz.encO (x:Int×Int):List Value:=[.int .i64 x.1, .int .i64 x.2]
def Tryz.cmpO (x y:Int×Int):Int:=Lib.compareInt x.1 y.1
set_option maxHeartbeats 2000000 in
theorem Tryz.compare128 (x y:Int×Int) (W:World):Calls Tryz.prog 24 #[.agg #[.int .i64 x.1, .int .i64 x.2], .agg #[.int .i64 y.1, .int .i64 y.2]] W fun e w'=>e= .returned (.int .i64 (Tryz.cmpO x y))∧∃q os',w'=grow (W.drewN q) os':=by
 have hcon:=fun W'=>AnyG.cmp_Compare_int Tryz.cmpInt x.1 y.1 W'
 change∀W',Calls Tryz.prog 57 _ _ _ at hcon
 unfold Tryz.cmpO
 generalize Lib.compareInt x.1 y.1=r at hcon⊢
 go_enter Tryz.func24,Tryz.ntmps24
 go_wp2_with (go_at_call 57;refine(hcon _).mono ?_;rintro e w' ⟨rfl,rfl⟩)
 go_ret
 exact⟨rfl,0,_,by rw[alloc_eq_grow,alloc_eq_grow,grow_grow];rfl⟩
theorem Tryz.cmpLays128 (blk off size:Nat) (w:World):CmpLays Tryz.prog 24 #[] Tryz.encO 2 Tryz.cmpO blk off size w:=
 fun _ _ _ _ x y=>Tryz.compare128 x y _
theorem Tryz.ltO (x y:Int×Int):ltOf Tryz.cmpO x y=decide (x.1<y.1):=by
 unfold ltOf Tryz.cmpO Lib.compareInt
 by_cases h1:x.1<y.1
 ·simp[h1]
 ·by_cases h2:y.1<x.1<;>simp[h1,h2]
theorem Tryz.swoO:SWO (ltOf Tryz.cmpO) where
 irrefl x:=by rw[Tryz.ltO];simp
 trans x y z h1 h2:=by rw[Tryz.ltO] at*;simp at*;omega
 ntrans x y z h1 h2:=by rw[Tryz.ltO] at*;simp at*;omega
theorem Tryz.sort127 (g cap:Nat) (d:Array (Int×Int)) (w:World) (hH:HoldsK Tryz.encO 2 w g 0 d) (hblk:g<w.heap.size) (hsz:d.size<4611686018427387904):
  Calls Tryz.prog 23 #[.slice (some ⟨g,0,none⟩) d.size cap, .func (.func 24) #[] #[]] w fun e w'=>e= .returned (.tuple #[])∧∃d' n os,PermIn 0 d.size d d'∧SortedIn (ltOf Tryz.cmpO) 0 d.size d'∧w'=sortWorldK Tryz.encO 2 w g 0 n d' os:=by
 have eg:∀args w,(callFunc 24 args).run Tryz.prog w= .ok (.enter 24 args) w:=enters_of Tryz.func24 (by kernel_rfl) rfl
 exact AnyQ.slices_SortFunc Tryz.sortO 2 Tryz.isAgg31 Tryz.sizeOf31 Tryz.encO (fun _=>rfl) (fun x v hv=>by simp[Tryz.encO] at hv;rcases hv with rfl|rfl<;>rfl) Tryz.cmpO Tryz.swoO 24 #[] g 0 cap d w eg (Tryz.cmpLays128 g 0 d.size w) hH hblk hsz
theorem Tryz.sort127_none (p:Option Addr) (cap:Nat) (w:World):Calls Tryz.prog 23 #[.slice p 0 cap, .func (.func 24) #[] #[]] w fun e w'=>e= .returned (.tuple #[])∧w'=w:=
 AnyF.slices_SortFunc_none Tryz.sortO p cap _ w
theorem Tryz.info172_is:∃i z,Tryz.prog.info? 31=some i∧i.zero=some z∧i.size=2∧i.bytes=16∧z.cells.size=2:=by
 have h1:(Tryz.prog.info? 31).map (fun i=>(i.size,i.bytes,i.zero.map fun z=>z.cells.size))=some (2,16,some 2):=by kernel_rfl
 obtain⟨i,hi,he⟩:=Option.map_eq_some_iff.1 h1
 cases hz:i.zero with
 |none=>rw[hz] at he;simp at he
 |some z=>
  rw[hz] at he
  simp at he
  exact⟨i,z,hi,hz,he.1,he.2.1,he.2.2⟩
theorem Tryz.grow161 (n:Nat) (w:World) (h0:0<n) (h1:n≤1000000):Calls Tryz.prog 54 #[.slice none 0 0, .int .i64 n] w fun e w'=>
      ∃(cap:Nat) (cur:Array Value),e= .returned (.slice (some ⟨w.heap.size,0,none⟩) 0 cap)∧w'=w.drew.alloc (.cells cur 31)∧cur.size=cap*2∧cap≤maxLen:=by
  obtain⟨i,z,hi,hz,h2,h3,h4⟩:=Tryz.info172_is
  refine(Any8.slices_Grow_grow Tryz.growO i z hi hz (by omega) none 0 0 n [] w (Nat.le_refl _) (by omega) (by rw[h3];omega) (by omega) (by simp) (fun _=>rfl) (fun a ha=>by cases ha)).mono ?_
  rintro e w' ⟨rfl,rfl⟩
  have hge:=grownCap_ge w (0+n) 0 31
  refine⟨_,_,rfl,rfl, ?_,grownCap_le_maxLen w (0+n) 0 31 (by unfold maxLen;omega)⟩
  have hz':∀m,(Builtin.zeroCells z.cells m).size=m*2:=fun m=>by simp[Builtin.zeroCells,h4]
  simp only[Array.size_append,hz',List.size_toArray,List.length_nil,Nat.zero_add,Nat.sub_zero]
  show n*2+(grownCap w n 0 31-n)*2=grownCap w n 0 31*2
  rw[Nat.zero_add] at hge
  omega
theorem Tryz.grow161_none (w:World):Calls Tryz.prog 54 #[.slice none 0 0, .int .i64 0] w fun e w'=>e= .returned (.slice none 0 0)∧w'=w:=
 Any8.slices_Grow_room Tryz.growO none 0 0 0 w (by omega) (by omega) (by omega) (by omega)
end Go.Proofs

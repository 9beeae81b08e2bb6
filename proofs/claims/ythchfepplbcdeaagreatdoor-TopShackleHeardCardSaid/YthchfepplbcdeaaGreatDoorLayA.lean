/- Library functions at this program: part of the proof. -/
import Derived.Test.YthchfepplbcdeaaGreatDoorProg
import Derived.Test.YthchfepplbcdeaaGreatDoorSxC
import Derived.Test.YthchfepplbcdeaaGreatDoorShelfA
import Derived.Shelf.SlSortCmp.WholeK
import Derived.Shelf.SlSortCmp.NoneTotal
import Derived.Shelf.SlicesG.Cmp
import Derived.Shelf.Spec.SlicesGrow
import Derived.Shelf.SlicesE.Clone
import Derived.Ground.SlsfProg
import Derived.Ground.SlgcProg
import Derived.Ground.SlgnProg
import Derived.Ground.Names8Prog
import Derived.WalkKit
set_option linter.unusedSimpArgs false
set_option linter.unusedVariables false
namespace Go.Proofs
open Go.Shelf
def Tryz.sortA_ren:Go.Shelf.Ren:=⟨fun|6=>62|15=>90|14=>89|28=>139|29=>140|20=>131|21=>132|22=>133|23=>134|24=>135|25=>136|26=>137|27=>138|46=>165|47=>166|48=>167|49=>168|50=>169|57=>184|n=>n,fun|22=>33|24=>48|25=>151|3=>3|39=>141|0=>0|53=>178|55=>180|4=>4|46=>219|45=>218|50=>223|5=>5|9=>9|66=>242|70=>246|76=>261|77=>126|n=>n,fun|n=>n⟩
theorem Tryz.sortA:Go.Proofs.SlLaysF0.n6 Tryz.prog Tryz.sortA_ren:={
 mixed:=by kernel_rfl
 f6:=⟨Tryz.f62.name,by decide,Tryz.func62.trans (congrArg some (by kernel_rfl))⟩
 f14:=⟨Tryz.f89.name,by decide,Tryz.func89.trans (congrArg some (by kernel_rfl))⟩
 f15:=Tryz.func90.trans (congrArg some (by kernel_rfl))
 f20:=⟨Tryz.f131.name,by decide,Tryz.func131.trans (congrArg some (by kernel_rfl))⟩
 f21:=⟨Tryz.f132.name,by decide,Tryz.func132.trans (congrArg some (by kernel_rfl))⟩
 f22:=⟨Tryz.f133.name,by decide,Tryz.func133.trans (congrArg some (by kernel_rfl))⟩
 f23:=⟨Tryz.f134.name,by decide,Tryz.func134.trans (congrArg some (by kernel_rfl))⟩
 f24:=⟨Tryz.f135.name,by decide,Tryz.func135.trans (congrArg some (by kernel_rfl))⟩
 f25:=⟨Tryz.f136.name,by decide,Tryz.func136.trans (congrArg some (by kernel_rfl))⟩
 f26:=⟨Tryz.f137.name,by decide,Tryz.func137.trans (congrArg some (by kernel_rfl))⟩
 f27:=⟨Tryz.f138.name,by decide,Tryz.func138.trans (congrArg some (by kernel_rfl))⟩
 f28:=Tryz.func139.trans (congrArg some (by kernel_rfl))
 f29:=Tryz.func140.trans (congrArg some (by kernel_rfl))
 f46:=⟨Tryz.f165.name,by decide,Tryz.func165.trans (congrArg some (by kernel_rfl))⟩
 f47:=Tryz.func166.trans (congrArg some (by kernel_rfl))
 f48:=Tryz.func167.trans (congrArg some (by kernel_rfl))
 f49:=⟨Tryz.f168.name,by decide,Tryz.func168.trans (congrArg some (by kernel_rfl))⟩
 f50:=⟨Tryz.f169.name,by decide,Tryz.func169.trans (congrArg some (by kernel_rfl))⟩
 f57:=⟨Tryz.f184.name,by decide,Tryz.func184.trans (congrArg some (by kernel_rfl))⟩
 t0:=Tryz.underlying0
 a0:=Tryz.isAgg0
 z0:=Tryz.sizeOf0
 v0:=Tryz.zeroValue0
 t3:=Tryz.underlying3
 a3:=Tryz.isAgg3
 z3:=Tryz.sizeOf3
 v3:=Tryz.zeroValue3
 t4:=Tryz.underlying4
 a4:=Tryz.isAgg4
 z4:=Tryz.sizeOf4
 v4:=Tryz.zeroValue4
 t5:=Tryz.underlying5
 a5:=Tryz.isAgg5
 z5:=Tryz.sizeOf5
 v5:=Tryz.zeroValue5
 t9:=Tryz.underlying9
 a9:=Tryz.isAgg9
 z9:=Tryz.sizeOf9
 v9:=Tryz.zeroValue9
 t22:=Tryz.underlying33
 a22:=Tryz.isAgg33
 z22:=Tryz.sizeOf33
 v22:=Tryz.zeroValue33
 t25:=Tryz.underlying151
 a25:=Tryz.isAgg151
 z25:=Tryz.sizeOf151
 v25:=Tryz.zeroValue151
 t39:=Tryz.underlying141
 a39:=Tryz.isAgg141
 z39:=Tryz.sizeOf141
 v39:=Tryz.zeroValue141
 t45:=Tryz.underlying218
 a45:=Tryz.isAgg218
 z45:=Tryz.sizeOf218
 v45:=Tryz.zeroValue218
 t46:=Tryz.underlying219
 a46:=Tryz.isAgg219
 z46:=Tryz.sizeOf219
 v46:=Tryz.zeroValue219
 t50:=Tryz.underlying223
 a50:=Tryz.isAgg223
 z50:=Tryz.sizeOf223
 v50:=Tryz.zeroValue223
 t53:=Tryz.underlying178
 a53:=Tryz.isAgg178
 z53:=Tryz.sizeOf178
 v53:=Tryz.zeroValue178
 t55:=Tryz.underlying180
 a55:=Tryz.isAgg180
 z55:=Tryz.sizeOf180
 v55:=Tryz.zeroValue180
 t66:=Tryz.underlying242
 a66:=Tryz.isAgg242
 z66:=Tryz.sizeOf242
 v66:=Tryz.zeroValue242
 t70:=Tryz.underlying246
 a70:=Tryz.isAgg246
 z70:=Tryz.sizeOf246
 v70:=Tryz.zeroValue246
 t76:=Tryz.underlying261
 a76:=Tryz.isAgg261
 z76:=Tryz.sizeOf261
 v76:=Tryz.zeroValue261
 t77:=Tryz.underlying126
 a77:=Tryz.isAgg126
 z77:=Tryz.sizeOf126
 v77:=Tryz.zeroValue126}
def Tryz.growO_ren:Go.Shelf.Ren:=⟨fun|4=>164|n=>n,fun|22=>182|25=>149|3=>3|4=>4|9=>9|20=>20|0=>0|n=>n,fun|n=>n⟩
theorem Tryz.growO:Go.Proofs.Lays8.n4 Tryz.prog Tryz.growO_ren:={
 mixed:=by kernel_rfl
 f4:=⟨Tryz.f164.name,by decide,Tryz.func164.trans (congrArg some (by kernel_rfl))⟩
 t0:=Tryz.underlying0
 a0:=Tryz.isAgg0
 z0:=Tryz.sizeOf0
 v0:=Tryz.zeroValue0
 t3:=Tryz.underlying3
 a3:=Tryz.isAgg3
 z3:=Tryz.sizeOf3
 v3:=Tryz.zeroValue3
 t4:=Tryz.underlying4
 a4:=Tryz.isAgg4
 z4:=Tryz.sizeOf4
 v4:=Tryz.zeroValue4
 t9:=Tryz.underlying9
 a9:=Tryz.isAgg9
 z9:=Tryz.sizeOf9
 v9:=Tryz.zeroValue9
 t20:=Tryz.underlying20
 a20:=Tryz.isAgg20
 z20:=Tryz.sizeOf20
 v20:=Tryz.zeroValue20
 t22:=Tryz.underlying182
 a22:=Tryz.isAgg182
 z22:=Tryz.sizeOf182
 v22:=Tryz.zeroValue182}
def Tryz.laysCl154_ren:Go.Shelf.Ren:=⟨fun|41=>154|n=>n,fun|22=>96|23=>135|4=>4|n=>n,fun|n=>n⟩
theorem Tryz.laysCl154:Go.Proofs.SlLaysE0.n41 Tryz.prog Tryz.laysCl154_ren:={
 mixed:=by kernel_rfl
 f41:=⟨Tryz.f154.name,by decide,Tryz.func154.trans (congrArg some (by kernel_rfl))⟩
 t4:=Tryz.underlying4
 a4:=Tryz.isAgg4
 z4:=Tryz.sizeOf4
 v4:=Tryz.zeroValue4
 t22:=Tryz.underlying96
 a22:=Tryz.isAgg96
 z22:=Tryz.sizeOf96
 v22:=Tryz.zeroValue96}
def Tryz.laysCl155_ren:Go.Shelf.Ren:=⟨fun|41=>155|n=>n,fun|22=>98|23=>206|4=>4|n=>n,fun|n=>n⟩
theorem Tryz.laysCl155:Go.Proofs.SlLaysE0.n41 Tryz.prog Tryz.laysCl155_ren:={
 mixed:=by kernel_rfl
 f41:=⟨Tryz.f155.name,by decide,Tryz.func155.trans (congrArg some (by kernel_rfl))⟩
 t4:=Tryz.underlying4
 a4:=Tryz.isAgg4
 z4:=Tryz.sizeOf4
 v4:=Tryz.zeroValue4
 t22:=Tryz.underlying98
 a22:=Tryz.isAgg98
 z22:=Tryz.sizeOf98
 v22:=Tryz.zeroValue98}
end Go.Proofs
namespace Go.Proofs
open Go.Shelf Go.RowKit Go.Lib Go.Sort
theorem Tryz.info170_is:∃i z,Tryz.prog.info? 149=some i∧i.zero=some z∧i.size=5∧i.bytes=40∧z.cells.size=5:=by
 have h1:(Tryz.prog.info? 149).map (fun i=>(i.size,i.bytes,i.zero.map fun z=>z.cells.size))=some (5,40,some 5):=by kernel_rfl
 obtain⟨i,hi,he⟩:=Option.map_eq_some_iff.1 h1
 cases hz:i.zero with
 |none=>rw[hz] at he;simp at he
 |some z=>
  rw[hz] at he
  simp at he
  exact⟨i,z,hi,hz,he.1,he.2.1,he.2.2⟩
theorem Tryz.grow203 (n:Nat) (w:World) (h0:0<n) (h1:n≤1000000):Calls Tryz.prog 164 #[.slice none 0 0, .int .i64 n] w fun e w'=>
      ∃(cap:Nat) (cur:Array Value),e= .returned (.slice (some ⟨w.heap.size,0,none⟩) 0 cap)∧w'=w.drew.alloc (.cells cur 149)∧cur.size=cap*5∧cap≤maxLen:=by
  obtain⟨i,z,hi,hz,h2,h3,h4⟩:=Tryz.info170_is
  refine(Any8.slices_Grow_grow Tryz.growO i z hi hz (by omega) none 0 0 n [] w (Nat.le_refl _) (by omega) (by rw[h3];omega) (by omega) (by simp) (fun _=>rfl) (fun a ha=>by cases ha)).mono ?_
  rintro e w' ⟨rfl,rfl⟩
  have hge:=grownCap_ge w (0+n) 0 149
  refine⟨_,_,rfl,rfl, ?_,grownCap_le_maxLen w (0+n) 0 149 (by unfold maxLen;omega)⟩
  have hz':∀m,(Builtin.zeroCells z.cells m).size=m*5:=fun m=>by simp[Builtin.zeroCells,h4]
  simp only[Array.size_append,hz',List.size_toArray,List.length_nil,Nat.zero_add,Nat.sub_zero]
  show n*5+(grownCap w n 0 149-n)*5=grownCap w n 0 149*5
  rw[Nat.zero_add] at hge
  omega
theorem Tryz.grow203_none (w:World):Calls Tryz.prog 164 #[.slice none 0 0, .int .i64 0] w fun e w'=>e= .returned (.slice none 0 0)∧w'=w:=
 Any8.slices_Grow_room Tryz.growO none 0 0 0 w (by omega) (by omega) (by omega) (by omega)
end Go.Proofs
namespace Go.Proofs
open Go.Shelf Go.RowKit Go.Lib
set_option maxHeartbeats 2000000 in
set_option maxRecDepth 100000 in
theorem AnyE.slices_Clone_zero {P:Program} {ρ:Ren} (L:SlLaysE0.n41 P ρ) (i0:TypeInfo) (z:Value) (size bytes:Nat) (hi:P.info? (ρ.t 23)=some i0) (hz0:i0.zero=some z) (hz1:i0.size=size) (hz2:i0.bytes=bytes) (hzs:z.cells.size=size) (hsz:0<size)
  (z23:∀w,(Go.sizeOf (ρ.t 23)).run P w= .ok size w) (ad:Addr) (c:Nat) (w:World):
  Calls P (ρ.f 41) #[.slice (some ad) 0 c] w fun e w'=>∃v',e= .returned v'∧w'.ownsRow w.heap.size (ρ.t 23) size v' 0 []∧v'≠ .slice none 0 0∧RowKit.Below w.heap.size w w':=by
 have mixed:=L.mixed;have t4:=L.t4;have a4:=L.a4;have z4:=L.z4;have v4:=L.v4;have t22:=L.t22;have a22:=L.a22;have z22:=L.z22;have v22:=L.v22
 have q22:∀(w:World) (a:Option Addr) (n c n' c':Nat),(binOp .eql (ρ.t 22) (.slice a n c) (.slice none n' c')).run P w= .ok (.bool a.isNone) w:=fun w a n c n' c'=>Lib.run_eql_slice_nil w _ _ a n c n' c' L.t22
 have u22:∀w,Sem.run P (underlying (ρ.t 22)) w= .ok (TypeDesc.slice (ρ.t 23)) w:=run_underlying t22
 obtain⟨_,_,FG⟩:=L.f41
 go_enter FG,SlBodyN.n41_ntmps ρ
 go_wp2_with (at_builtin;refine wpList_append_own _ rfl _ _ (ρ.t 22) rfl w.heap.size (ρ.t 23) i0 z size bytes t22 hi hz0 hz1 hz2 hzs hsz _ _ _ rfl (World.ownsRow_made w #[] 0 (Nat.le_refl _) (Nat.zero_le _) (by simp)) ad 0 c [] rfl ?qc1 ?qc2 ?qc3 ?qc4 ?qc5 ?qc6 ?_)
 case qc1=>simp
 case qc2=>
  intro j u hj
  simp at hj
 case qc3=>intro u hu;cases hu
 case qc4=>simp
 case qc5=>simp
 case qc6=>simp
 intro v' w1 hown hgrow hnil
 go_wp2
 go_ret
 refine⟨v',rfl,by simpa using hown, ?_, ?_⟩
 ·exact hnil
 ·exact((RowKit.Below.refl _ w).alloc (Nat.le_refl _) _).grown hgrow (by simp) (by intro k hk;simp[Value.ownBlock] at hk;omega)
theorem Tryz.info135_is:∃i z,Tryz.prog.info? 135=some i∧i.zero=some z∧i.size=2∧i.bytes=24∧z.cells.size=2:=by
 have h1:(Tryz.prog.info? 135).map (fun i=>(i.size,i.bytes,i.zero.map fun z=>z.cells.size))=some (2,24,some 2):=by kernel_rfl
 obtain⟨i,hi,he⟩:=Option.map_eq_some_iff.1 h1
 cases hz:i.zero with
 |none=>rw[hz] at he;simp at he
 |some z=>
  rw[hz] at he
  simp only[Option.map_some,Prod.mk.injEq,Option.some.injEq] at he
  exact⟨i,z,hi,hz,he.1,he.2.1,he.2.2⟩
theorem Tryz.clone154 (b off n c:Nat) (news:List Value) (w:World) (hl:news.length=n*2) (hn:n≤maxLen) (hbig:n*24≤140737488355328) (hc:∀j u,news[j]? =some u→w.cell? ⟨b,off+j,none⟩=some u) (h1:∀u∈news,u.oneCell'=true):
  Calls Tryz.prog 154 #[.slice (some ⟨b,off,none⟩) n c] w fun e w'=>∃v',e= .returned v'∧w'.ownsRow w.heap.size 135 2 v' n news∧v'≠ .slice none 0 0∧RowKit.Below w.heap.size w w':=by
 obtain⟨i,z,hi,hz,hs,hb,hc'⟩:=Tryz.info135_is
 exact AnyE.slices_Clone Tryz.laysCl154 i z 2 24 hi hz hs hb hc' (by decide) (fun w=>by
  have e:Tryz.laysCl154_ren.t 23=135:=by kernel_rfl
  rw[e]
  simp[sizeOf,typeInfo,hi,hs]) b off n c news w hl hn hbig hc h1
theorem Tryz.clone154_zero (ad:Addr) (c:Nat) (w:World):
  Calls Tryz.prog 154 #[.slice (some ad) 0 c] w fun e w'=>∃v',e= .returned v'∧w'.ownsRow w.heap.size 135 2 v' 0 []∧v'≠ .slice none 0 0∧RowKit.Below w.heap.size w w':=by
 obtain⟨i,z,hi,hz,hs,hb,hc'⟩:=Tryz.info135_is
 exact AnyE.slices_Clone_zero Tryz.laysCl154 i z 2 24 hi hz hs hb hc' (by decide) (fun w=>by
  have e:Tryz.laysCl154_ren.t 23=135:=by kernel_rfl
  rw[e]
  simp[sizeOf,typeInfo,hi,hs]) ad c w
theorem Tryz.clone154_nil (w:World):
  Calls Tryz.prog 154 #[.slice none 0 0] w fun e w'=>e= .returned (.slice none 0 0)∧w'=w:=AnyE.slices_Clone_nil Tryz.laysCl154 0 0 w
theorem Tryz.info206_is:∃i z,Tryz.prog.info? 206=some i∧i.zero=some z∧i.size=2∧i.bytes=24∧z.cells.size=2:=by
 have h1:(Tryz.prog.info? 206).map (fun i=>(i.size,i.bytes,i.zero.map fun z=>z.cells.size))=some (2,24,some 2):=by kernel_rfl
 obtain⟨i,hi,he⟩:=Option.map_eq_some_iff.1 h1
 cases hz:i.zero with
 |none=>rw[hz] at he;simp at he
 |some z=>
  rw[hz] at he
  simp only[Option.map_some,Prod.mk.injEq,Option.some.injEq] at he
  exact⟨i,z,hi,hz,he.1,he.2.1,he.2.2⟩
theorem Tryz.clone155 (b off n c:Nat) (news:List Value) (w:World) (hl:news.length=n*2) (hn:n≤maxLen) (hbig:n*24≤140737488355328) (hc:∀j u,news[j]? =some u→w.cell? ⟨b,off+j,none⟩=some u) (h1:∀u∈news,u.oneCell'=true):
  Calls Tryz.prog 155 #[.slice (some ⟨b,off,none⟩) n c] w fun e w'=>∃v',e= .returned v'∧w'.ownsRow w.heap.size 206 2 v' n news∧v'≠ .slice none 0 0∧RowKit.Below w.heap.size w w':=by
 obtain⟨i,z,hi,hz,hs,hb,hc'⟩:=Tryz.info206_is
 exact AnyE.slices_Clone Tryz.laysCl155 i z 2 24 hi hz hs hb hc' (by decide) (fun w=>by
  have e:Tryz.laysCl155_ren.t 23=206:=by kernel_rfl
  rw[e]
  simp[sizeOf,typeInfo,hi,hs]) b off n c news w hl hn hbig hc h1
theorem Tryz.clone155_zero (ad:Addr) (c:Nat) (w:World):
  Calls Tryz.prog 155 #[.slice (some ad) 0 c] w fun e w'=>∃v',e= .returned v'∧w'.ownsRow w.heap.size 206 2 v' 0 []∧v'≠ .slice none 0 0∧RowKit.Below w.heap.size w w':=by
 obtain⟨i,z,hi,hz,hs,hb,hc'⟩:=Tryz.info206_is
 exact AnyE.slices_Clone_zero Tryz.laysCl155 i z 2 24 hi hz hs hb hc' (by decide) (fun w=>by
  have e:Tryz.laysCl155_ren.t 23=206:=by kernel_rfl
  rw[e]
  simp[sizeOf,typeInfo,hi,hs]) ad c w
theorem Tryz.clone155_nil (w:World):
  Calls Tryz.prog 155 #[.slice none 0 0] w fun e w'=>e= .returned (.slice none 0 0)∧w'=w:=AnyE.slices_Clone_nil Tryz.laysCl155 0 0 w
end Go.Proofs

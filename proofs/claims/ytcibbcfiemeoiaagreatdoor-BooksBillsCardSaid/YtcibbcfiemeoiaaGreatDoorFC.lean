/- Contracts of the functions that the law reaches: part of the proof. -/
import Derived.Test.YtcibbcfiemeoiaaGreatDoorFB
set_option linter.unusedSimpArgs false
set_option linter.unusedVariables false
set_option maxRecDepth 20000
namespace Go.Proofs.YtcibbcfiemeoiaaGreatDoor
open Go.Sx
set_option maxHeartbeats 20000000
def Kcz:Con:={args:=[.val false (.list 130 Zx), .fn [(true,Zx)] (true,D5)],ress:=[(false, .list 129 D5)],owns:=[true],pre:=fun(l,(q,_),_)=>[l.length≤1000000,∀x∈l,Un (q (x,()))],spec:=fun(l,(_,f),_)=>(l.map fun x=>f (x,()),())}
def Kgk (a:Ord×Unit→Hl) (b:Nat) (c:List Ord):=List.map (fun(x:Ord)=>a (x,PUnit.unit)) (List.take b c)
def Kwt (a:Ord×Unit→Hl) (b:Nat) (c:List Ord):=List.length (Kgk a b c)
def Kty (a:Ord×Unit→Hl) (b:List Ord) (c:Nat):=a (Kem b c)
def Ktx (a:Ord×Unit→Hl) (b:List Ord) (c:Nat):=(Kty a b c).2
def Ktw (a:Ord×Unit→Hl) (b:List Ord) (c:Nat):=(Ktx a b c).2
def Ktv (a:Ord×Unit→Hl) (b:List Ord) (c:Nat):=(Ktw a b c).2
theorem Krp:Ok Tryz.prog 125 Kcz:=okW K31 Tryz.f125 (fun xx=>Xh (Ja9 130 129 Zx xx.1 (true,D5) true xx.2.1.1 xx.2.1.2)) fun xx=>by
 obtain⟨(l:List Ord),⟨(q:Ord×Unit→List Prop),(f:Ord×Unit→Hl)⟩,_⟩:=xx
 refine(by kernel_rfl:(Z47 l→Kmj l q→∃(x:Nat),Si (Ln l) (0=Nc x∧Sf l ((fun(x:Ord×PUnit)=>q x)=q∧(fun(x:Ord×PUnit)=>f x)=f∧Kwt f x l=0))∧x≤List.length l∧∀(x:Nat),x≤List.length l→Br (decide (Nc x<Ln l)) (Tw (Bd (Nc x) (Ln l))∧(Kie q l x∧(Kwt f x l+1)*56≤140737488355328)∧Z14 x∧∃(y:Nat),Si (Ln l) (V9 x y∧Sf l ((fun(x:Ord×PUnit)=>q x)=q∧(fun(x:Ord×PUnit)=>f x)=f∧Kgk f x l++((Kty f l x).1,(Ktx f l x).1,(Ktw f l x).1,(Ktv f l x).1,E2 (Ktv f l x).2)::Jx8=Kgk f y l))∧y≤List.length l∧J3a l y x) (Kgk f x l=List.map (fun(x:Ord)=>f (x,PUnit.unit)) l))=_).mp ?_
 delta Z14 Z47 Z66 V9 J3a Jdv Jx8 Kah Kmj J6h Kgz Kgy Kgx Kgw Kgu Kaa Kgt J98 Kgp Kgk Kwt Kem Kty Ktx Ktw Ktv Kie Br Iw Bd Tw Sf Si Ln Nc B0 E2
 intro hb hq
 refine⟨(0:Nat),⟨rfl,rfl,rfl,rfl,rfl,by simp⟩,Nat.zero_le _,fun(k:Nat) hk=>⟨fun h=> ?_,fun h=> ?_⟩⟩
 ·have hlt:k<l.length:=by simpa using h
  refine⟨by omega,⟨hq (l.getD k Jl) (Jc hlt),by simp only[List.length_map,List.length_take];omega⟩,by omega,(k+1:Nat),⟨rfl,by simp,rfl,rfl,rfl, ?_⟩,by omega,by omega⟩
  rw[←Us (d:=Jl) hlt,List.map_append];rfl
 ·have hlt:¬k<l.length:=by simpa using h
  rw[List.take_of_length_le (by omega)]
abbrev K30:=K31.add Krp
def Xo (l:List Ev):List Hl:=(Jq l).2.2.2.1.map (Jv (Jq l).2.1 (Jq l).2.2.2.2.1)
def X3 (l:List Ev):List Hl×Int:=if opE l []=0 then(Xo l,0) else([],opE l [])
def Jz9:Con:={args:=[.val false (.list 67 sEv)],ress:=[(false, .list 129 D5),I],owns:=[],pre:=fun(l,_)=>[lOk l],spec:=fun(l,_)=>((X3 l).1,(X3 l).2,())}
def Kmo (a:List Ev):=opE a [] !=0
def Kfs (a:List Ev):=List.map (fun(x:Ord)=>Jv (Jq a).2.1 (Jq a).2.2.2.2.1 x) (Jq a).2.2.2.1
def Kiq (a:List Ev):=List.length (Jq a).2.2.2.1≤1000000∧∀(x:Ord),x∈(Jq a).2.2.2.1→Jj4 a∧x∈(Jq a).2.2.2.1
theorem K6s:Ok Tryz.prog 43 Jz9:=okW K30 Tryz.f43 na fun xx=>by
 obtain⟨(l:List Ev),_⟩:=xx
 refine(by kernel_rfl:(lOk l→(lOk l∧0≤1000000)∧Br (Kmo l) (Jx8=(X3 l).1∧opE l []=(X3 l).2) (Kiq l∧Kfs l=(X3 l).1∧0=(X3 l).2))=_).mp ?_
 delta Jx8 Kmo Jx6 Jj4 Kfs Kiq Br E2
 intro hl
 have hr:=Lj (l:=l)
 have nO:(Jq l).2.2.2.1.length≤32:=hr.nO
 simp only[Prod.eta]
 refine⟨⟨hl,by decide⟩,fun h=> ?_,fun h=>⟨⟨Nat.le_trans nO (by decide),fun x hx=>⟨hr,hx⟩⟩, ?_⟩⟩
 ·have h:=bne_iff_ne.1 h
  unfold X3;rw[if_neg h]
  exact⟨rfl,rfl⟩
 ·have h:opE l []=0:=bne_eq_false_iff_eq.1 h
  unfold X3;rw[if_pos h]
  exact⟨rfl,rfl⟩
abbrev K3z:=K30.add K6s
def Jfz (l:List Ev) (a b:ByteArray):Int:=Jg [opE l [a,b],bif a.toList==b.toList then 24 else 0]
def Jgt (l:List Ev) (a b:ByteArray):Int:=if Jfz l a b=0 then Hb (Jq l).2.1 (Jq l).2.2.2.1 (Jq l).2.2.2.2.1 a b else 0
def J5k:Con:={args:=[.val false (.list 67 sEv),aS,aS],ress:=[I,I],owns:=[],pre:=fun(l,_)=>[lOk l],spec:=fun(l,a,b,_)=>(Jgt l a b,Jfz l a b,())}
def Khb (a:List Ev) (b c:Bt):=Hb (Jq a).2.1 (Jq a).2.2.2.1 (Jq a).2.2.2.2.1 b c
def K1j (a:List Ev) (b c:Bt):=Jg [opE a [b,c],bif Lb b c then 24 else 0]
theorem K6r:Ok Tryz.prog 44 J5k:=okW K3z Tryz.f44 na fun xx=>by
 obtain⟨(l:List Ev),(a:ByteArray),(b:ByteArray),_⟩:=xx
 refine(by kernel_rfl:(lOk l→(lOk l∧2≤1000000)∧2≤1000000∧Br (K1j l a b !=0) (0=Jgt l a b∧K1j l a b=Jfz l a b) (Jj4 l∧Khb l a b=Jgt l a b∧0=Jfz l a b))=_).mp ?_
 delta Khb K1j Jx6 Jj4 Br Lb E2
 intro hl
 refine⟨⟨hl,by decide⟩,by decide,fun h=> ?_,fun h=> ?_⟩
 ·have h:Jfz l a b≠0:=bne_iff_ne.1 h
  exact⟨by unfold Jgt;rw[if_neg h],rfl⟩
 ·have h:Jfz l a b=0:=bne_eq_false_iff_eq.1 h
  exact⟨Lj,by unfold Jgt;rw[if_pos h],h.symm⟩
abbrev K3y:=K3z.add K6r
def Kdw (l:List Ev) (a:ByteArray):Int:=opE l [a]
def Jwk (l:List Ev) (a:ByteArray):Int:=if opE l [a]=0 then Jma (Jq l).2.1 (Jq l).2.2.1 (Jq l).2.2.2.1 (Jq l).2.2.2.2.1 a else 0
def Kdr:Con:={args:=[.val false (.list 67 sEv),aS],ress:=[I,I],owns:=[],pre:=fun(l,_)=>[lOk l],spec:=fun(l,a,_)=>(Jwk l a,Kdw l a,())}
theorem K6q:Ok Tryz.prog 45 Kdr:=okW K3y Tryz.f45 na fun xx=>by
 obtain⟨(l:List Ev),(a:ByteArray),_⟩:=xx
 refine(by kernel_rfl:(lOk l→(lOk l∧1≤1000000)∧Br (opE l [a] !=0) (0=Jwk l a∧opE l [a]=Kdw l a) (Jj4 l∧Jma (Jq l).2.1 (Jq l).2.2.1 (Jq l).2.2.2.1 (Jq l).2.2.2.2.1 a=Jwk l a∧0=Kdw l a))=_).mp ?_
 delta Jx6 Jj4 Br E2
 intro hl
 refine⟨⟨hl,by decide⟩,fun h=> ?_,fun h=> ?_⟩
 ·have h:opE l [a]≠0:=bne_iff_ne.1 h
  exact⟨by unfold Jwk;rw[if_neg h],rfl⟩
 ·have h:opE l [a]=0:=bne_eq_false_iff_eq.1 h
  exact⟨Lj,by unfold Jwk;rw[if_pos h],h.symm⟩
abbrev K3x:=K3y.add K6q
def H2 (l:List Ev):(Int×Int)×Int:=if opE l []=0 then Jex (Jq l).2.1 (Jq l).2.2.2.1 (Jq l).2.2.2.2.1 else((0,0),opE l [])
def J45:Con:={args:=[.val false (.list 67 sEv)],ress:=[(true,Ho),I],owns:=[],pre:=fun(l,_)=>[lOk l],spec:=fun(l,_)=>((H2 l).1,(H2 l).2,())}
abbrev Jwy (l:List Ev) (B:List Hl):Ann:={X:=Nat×Int×Int,σ:=fun(k,s,g)=>⟨9,[(2, .one (.ptr 1 0)),(6, .one (.int .i64 s)),(7, .one (.int .i64 g)),(23, .one (.sl 8)),(24, .one (.int .i64 B.length)),(25, .one (.int .i64 k))],[(1, .box 54 [.int .i64 0, .int .i64 0]),(8, .own 129 D5 B)]⟩,inv:=fun(k,s,g)=>k≤B.length∧(0≤s∧s≤48000*k)∧(0≤g∧g≤s)∧Jku (B.drop k) (s,g)=Jku B (0,0),mu:=fun(k,_)=>B.length-k}
def Kx2 (a:List Ev) (b:Nat×Int×Int):=(List.getD (Xo a) b.1 J05).2.2
def Kxy (a:Nat×Int×Int) (b:List Ev):=a.2.1+(Kx2 b a).1
def Kxv (a:Nat×Int×Int) (b:List Ev):=a.2.2+(Kx2 b a).2.1
def Ki4 (a:Nat×Int×Int) (b:List Ev):=a.1≤List.length (Xo b)∧(0≤a.2.1∧a.2.1≤48000*Nc a.1)∧(0≤a.2.2∧a.2.2≤a.2.1)∧Jku (List.drop a.1 (Xo b)) (E2 a.2)=Jku (Xo b) (0,0)
theorem K6p:Ok Tryz.prog 46 J45:=okW K3x Tryz.f46 (fun xx=>Xh (Jwy xx.1 (Xo xx.1))) fun xx=>by
 obtain⟨(l:List Ev),_⟩:=xx
 refine(by kernel_rfl:(lOk l→(lOk l∧0≤1000000)∧Br (Kmo l) ((0,0)=(H2 l).1∧opE l []=(H2 l).2) (Kiq l∧∃(x:Nat×Int×Int),(0=x.2.1∧0=x.2.2∧Ln (Kfs l)=Ln (Xo l)∧0=Nc x.1∧Si 0 (Si 0 (Kfs l=Xo l)))∧Ki4 x l∧∀(x:Nat×Int×Int),Ki4 x l→Br (decide (Nc x.1<Ln (Xo l))) (Tw (Bd (Nc x.1) (Ln (Xo l)))∧Iw (Kxy x l)∧Iw (Kxv x l)∧Iw (Nc x.1+1)∧∃(y:Nat×Int×Int),(Kxy x l=y.2.1∧Kxv x l=y.2.2∧Si (Ln (Xo l)) (Nc x.1+1=Nc y.1∧Si 0 (Si 0 (Xo l=Xo l))))∧Ki4 y l∧List.length (Xo l)-y.1<List.length (Xo l)-x.1) (Br (x.2.1==0) ((0,0)=(H2 l).1∧6=(H2 l).2) (Kks x∧E2 (Jsq (x.2.1-x.2.2) x.2.1)=(H2 l).1∧0=(H2 l).2))))=_).mp ?_
 delta Z66 J05 Kmo Kks Jx6 Jj4 Kfs Kx2 Kxy Kxv Ki4 Kiq Br Iw Bd Tw Si Ln Nc B0 E2
 intro hl
 have hr:=Lj (l:=l)
 have nO:(Jq l).2.2.2.1.length≤32:=hr.nO
 simp only[Prod.eta]
 refine⟨⟨hl,by decide⟩,fun h=> ?_,fun h=>⟨⟨Nat.le_trans nO (by decide),fun x hx=>⟨hr,hx⟩⟩, ?_⟩⟩
 ·have h:=bne_iff_ne.1 h
  unfold H2;rw[if_neg h]
  exact⟨rfl,rfl⟩
 have h:opE l []=0:=bne_eq_false_iff_eq.1 h
 have hB:∀b∈Xo l,J3i b:=fun b hb=>by
  obtain⟨x,hx,rfl⟩:=List.mem_map.1 hb
  exact Lu hr hx
 have nB:(Xo l).length≤32:=by unfold Xo;rw[List.length_map];exact nO
 refine⟨((0:Nat),0,0),by(repeat' first|exact rfl|exact⟨⟩|apply And.intro|omega|dsimp only;omega),⟨Nat.zero_le _,by(first|omega|dsimp only;omega),by(first|omega|dsimp only;omega),rfl⟩,fun(x:Nat×Int×Int) hk=>⟨fun h1=> ?_,fun h1=> ?_⟩⟩
 ·obtain⟨k,s,g⟩:=x
  have hlt:k<(Xo l).length:=by simpa using h1
  have hx:=Jc (d:=Jj1) hlt
  have hb:=hB _ hx
  obtain⟨k1,k2,k3,k4⟩:=hk
  rw[Jt (d:=Jj1) hlt,Jku] at k4
  have m1:=hb.sent
  have m2:=hb.got
  have hzb:((({data:={toList:=[]}}:ByteArray),(0:Int),(0:Int),(0:Int),(0:Int),(0:Int)):Hl)=Jj1:=rfl
  dsimp only at k1 k2 k3 k4
  simp only[hzb]
  exact⟨by(repeat' first|apply And.intro|omega),by(repeat' first|apply And.intro|omega),by(repeat' first|apply And.intro|omega),by(repeat' first|apply And.intro|omega),(k+1,s+((Xo l).getD k Jj1).2.2.1,g+((Xo l).getD k Jj1).2.2.2.1),by(repeat' first|exact rfl|exact⟨⟩|apply And.intro|omega|dsimp only;omega),⟨by(first|omega|dsimp only;omega),by(first|omega|dsimp only;omega),by(first|omega|dsimp only;omega),k4⟩,by(first|omega|dsimp only;omega)⟩
 ·obtain⟨k,s,g⟩:=x
  have hlt:¬k<(Xo l).length:=by simpa using h1
  obtain⟨k1,k2,k3,k4⟩:=hk
  have:k=(Xo l).length:=by dsimp only at k1;omega
  rw[this,List.drop_length,Jku] at k4
  have e:H2 l=if s=0 then((0,0),6) else(Jsq (s-g) s,0):=by
   unfold H2 Jex
   rw[if_pos h]
   rw[show((Jq l).2.2.2.1.map (Jv (Jq l).2.1 (Jq l).2.2.2.2.1))=Xo l from rfl,←k4]
  dsimp only at k2 k3
  rw[e]
  refine⟨fun h2=> ?_,fun h2=> ?_⟩
  ·have h2:s=0:=by simpa using h2
   rw[if_pos h2]
   exact⟨rfl,rfl⟩
  ·have h2:s≠0:=by simpa using h2
   rw[if_neg h2]
   refine⟨⟨?_, ?_, ?_⟩,rfl,rfl⟩
   all_goals dsimp only
   all_goals (repeat' first|apply And.intro|omega)
abbrev K3w:=K3x.add K6p
def K7m:Con:={args:=[.ref 167 Jiu],ress:=[(true,Jm9)],owns:=[],pre:=fun(h,_)=>[Ke h],spec:=fun(h,_)=>(Kf h.2.2,())}
theorem K59:Ok Tryz.prog 75 K7m:=okW K3w Tryz.f75 na fun xx=>by
 obtain⟨⟨(E:List Ev),(C:List Ev),(G:List Reg)⟩,_⟩:=xx
 refine(by kernel_rfl:(Ke (E,C,G)→Br (V0 G) (Vz G∧V8 G=Kf G) (Vr=Kf G))=_).mp ?_
 delta V0 Df Vz Vr D9 D8 Jad Hs Fu Hr De Zy Ft V8 Br Iw Bd Tw Ln Gt E2
 intro hh
 have n1:E.length≤1000:=hh.nE
 have n2:C.length≤E.length:=hh.nC
 have n3:G.length=C.length:=hh.nG
 have hG:((G.length:Int)-1).toNat=G.length-1:=by omega
 refine⟨fun h=> ?_,fun h=> ?_⟩
 ·have h:(0:Int)<G.length:=of_decide_eq_true h
  rw[hG]
  exact⟨by(repeat' first|apply And.intro|omega),rfl⟩
 ·exact(Km h).symm
abbrev K3v:=K3w.add K59
def Kc4:Con:={args:=[.val false (.list 67 sEv), .fn [(true,sEv)] Bo],ress:=[(false, .list 67 sEv)],owns:=[true],pre:=fun(l,(q,_),_)=>[l.length≤1000000,∀x∈l,Un (q (x,()))],spec:=fun(l,(_,f),_)=>(l.filter fun x=>f (x,()),())}
def J29 (a:Ev×Unit→Bool) (b:Nat) (c:List Ev):=List.filter (fun(x:Ev)=>a (x,PUnit.unit)) (List.take b c)
theorem K56:Ok Tryz.prog 78 Kc4:=okW K3v Tryz.f78 (fun xx=>Xh (Jof 67 67 sEv xx.1 true xx.2.1.1 xx.2.1.2)) fun xx=>by
 obtain⟨(l:List Ev),⟨(q:Ev×Unit→List Prop),(f:Ev×Unit→Bool)⟩,_⟩:=xx
 refine(by kernel_rfl:(Z38 l→Kai l q→∃(x:Nat),Si (Ln l) (0=Nc x∧Sf l ((fun(x:Ev×PUnit)=>q x)=q∧(fun(x:Ev×PUnit)=>f x)=f∧List.length (J29 f x l)=0))∧x≤List.length l∧∀(x:Nat),x≤List.length l→Br (decide (Nc x<Ln l)) (Tw (Z7 x l)∧J9k q l x∧Br (f (J6a l x)) ((List.length (J29 f x l)+1)*88≤140737488355328∧Z14 x∧∃(y:Nat),Si (Ln l) (V9 x y∧Sf l ((fun(x:Ev×PUnit)=>q x)=q∧(fun(x:Ev×PUnit)=>f x)=f∧J29 f x l++[Ket l x]=J29 f y l))∧J6n y l x) (Z14 x∧∃(y:Nat),Si (Ln l) (V9 x y∧Sf l ((fun(x:Ev×PUnit)=>q x)=q∧(fun(x:Ev×PUnit)=>f x)=f∧J29 f x l=J29 f y l))∧J6n y l x)) (J29 f x l=List.filter (fun(x:Ev)=>f (x,PUnit.unit)) l))=_).mp ?_
 delta Z7 Z14 Z38 V9 J1a J29 Jae J6t J6q J6o J6n Kai Ket J6a J9k Br Iw Bd Tw Sf Si Ln Nc B0 E2
 intro hb hq
 refine⟨(0:Nat),⟨rfl,rfl,rfl,rfl,rfl,by simp⟩,Nat.zero_le _,fun(k:Nat) hk=>⟨fun h=> ?_,fun h=> ?_⟩⟩
 ·have hlt:k<l.length:=by simpa using h
  have hf:=Jfh (p:=fun x=>f (x,())) hk
  have ht:=Us (d:=ev0) hlt
  refine⟨by omega,hq (l.getD k ev0) (Jc hlt),fun h1=> ?_,fun h1=> ?_⟩
  ·have h1:f (l.getD k ev0,())=true:=h1
   refine⟨by show((List.filter (fun x=>f (x,())) (List.take k l)).length+1)*88≤_;omega,by omega,(k+1:Nat),⟨rfl,by simp,rfl,rfl,rfl, ?_⟩,by omega,by omega⟩
   rw[←ht,List.filter_append,List.filter_cons,if_pos h1];rfl
  ·have h1:f (l.getD k ev0,())=false:=h1
   refine⟨by omega,(k+1:Nat),⟨rfl,by simp,rfl,rfl,rfl, ?_⟩,by omega,by omega⟩
   rw[←ht,List.filter_append,List.filter_cons,if_neg (by rw[h1];decide)];simp
 ·have hlt:¬k<l.length:=by simpa using h
  rw[List.take_of_length_le (by omega)]
abbrev K3u:=K3v.add K56
def Kc1:Con:={args:=[.val false (.list 67 sEv), .fn [(true,sEv)] (true,sEv)],ress:=[(false, .list 67 sEv)],owns:=[true],pre:=fun(l,(q,_),_)=>[l.length≤1000000,∀x∈l,Un (q (x,()))],spec:=fun(l,(_,f),_)=>(l.map fun x=>f (x,()),())}
def Ka4 (a:Ev×Unit→Ev) (b:Nat) (c:List Ev):=List.map (fun(x:Ev)=>a (x,PUnit.unit)) (List.take b c)
def Ku9 (a:Ev×Unit→Ev) (b:List Ev) (c:Nat):=a (J6a b c)
def Ku7 (a:Ev×Unit→Ev) (b:List Ev) (c:Nat):=(Ku9 a b c).2
def Ku6 (a:Ev×Unit→Ev) (b:List Ev) (c:Nat):=(Ku7 a b c).2
theorem K57:Ok Tryz.prog 77 Kc1:=okW K3u Tryz.f77 (fun xx=>Xh (Ja9 67 67 sEv xx.1 (true,sEv) true xx.2.1.1 xx.2.1.2)) fun xx=>by
 obtain⟨(l:List Ev),⟨(q:Ev×Unit→List Prop),(f:Ev×Unit→Ev)⟩,_⟩:=xx
 refine(by kernel_rfl:(Z38 l→Kai l q→∃(x:Nat),Si (Ln l) (0=Nc x∧Sf l ((fun(x:Ev×PUnit)=>q x)=q∧(fun(x:Ev×PUnit)=>f x)=f∧List.length (Ka4 f x l)=0))∧x≤List.length l∧∀(x:Nat),x≤List.length l→Br (decide (Nc x<Ln l)) (Tw (Z7 x l)∧(J9k q l x∧(List.length (Ka4 f x l)+1)*88≤140737488355328)∧Z14 x∧∃(y:Nat),Si (Ln l) (V9 x y∧Sf l ((fun(x:Ev×PUnit)=>q x)=q∧(fun(x:Ev×PUnit)=>f x)=f∧Ka4 f x l++[((Ku9 f l x).1,(Ku7 f l x).1,(Ku6 f l x).1,E2 (Ku6 f l x).2)]=Ka4 f y l))∧J6n y l x) (Ka4 f x l=List.map (fun(x:Ev)=>f (x,PUnit.unit)) l))=_).mp ?_
 delta Z7 Z14 Z38 V9 J1a Jae Ka4 J6t J6q J6o J6n Kai Ket J6a Ku9 Ku7 Ku6 J9k Br Iw Bd Tw Sf Si Ln Nc B0 E2
 intro hb hq
 refine⟨(0:Nat),⟨rfl,rfl,rfl,rfl,rfl,by simp⟩,Nat.zero_le _,fun(k:Nat) hk=>⟨fun h=> ?_,fun h=> ?_⟩⟩
 ·have hlt:k<l.length:=by simpa using h
  refine⟨by omega,⟨hq (l.getD k ev0) (Jc hlt),by simp only[List.length_map,List.length_take];omega⟩,by omega,(k+1:Nat),⟨rfl,by simp,rfl,rfl,rfl, ?_⟩,by omega,by omega⟩
  rw[←Us (d:=ev0) hlt,List.map_append];rfl
 ·have hlt:¬k<l.length:=by simpa using h
  rw[List.take_of_length_le (by omega)]
abbrev K3t:=K3u.add K57
def Xx:List Ev→Nat→List Ev
 |[],_=>[]
 |e::l,i=>((i:Int)+1,e.2)::Xx l (i+1)
def Zd (l:List Ev) (s:ByteArray):Int:=Jg [(Jd l).2.2,bif (bif (Jd l).2.2==0 then !Ve (Jq l) 0 s else false) then 10 else 0]
def Y4 (l:List Ev) (s:ByteArray):List Ev:=(Jd l).1.2.1.filter fun e=>abS (Jq l) e s
def Jak (l:List Ev) (s:ByteArray):List Ev:=if Zd l s=0 then Xx (Y4 l s) 0 else[]
def Kci:Con:={args:=[.val false (.list 67 sEv),aS],ress:=[(false, .list 67 sEv),I],owns:=[],pre:=fun(l,_)=>[lOk l],spec:=fun(l,s,_)=>(Jak l s,Zd l s,())}
theorem Dv:∀(l:List Ev) (i:Nat),(Xx l i).length=l.length
 |[],_=>rfl
 |_::l,i=>by unfold Xx;rw[List.length_cons,List.length_cons,Dv l]
theorem Jg9:∀(a b:List Ev) (i:Nat),Xx (a++b) i=Xx a i++Xx b (i+a.length)
 |[],_,_=>rfl
 |x::a,b,i=>by
  rw[List.cons_append,Xx,Xx,Jg9 a b (i+1),List.cons_append,List.length_cons,show i+1+a.length=i+(a.length+1) by omega]
theorem Jt6 {L:List Ev} {k:Nat} (h:k<L.length):(Xx (L.take k) 0++L.drop k).getD k ev0=L.getD k ev0:=by
 have hl:(Xx (L.take k) 0).length=k:=by rw[Dv,List.length_take];omega
 rw[Jt (d:=ev0) h,List.getD_eq_getElem?_getD,List.getElem?_append_right (by omega),hl,Nat.sub_self]
 rfl
theorem Jt5 {L:List Ev} {k:Nat} (h:k<L.length):(Xx (L.take k) 0++L.drop k).set k ((k:Int)+1,(L.getD k ev0).2)=Xx (L.take (k+1)) 0++L.drop (k+1):=by
 have hl:(Xx (L.take k) 0).length=k:=by rw[Dv,List.length_take];omega
 rw[Jt (d:=ev0) h,List.set_append_right _ _ (by omega),hl,Nat.sub_self,List.set_cons_zero,←Us (d:=ev0) h,Jg9,List.append_assoc,List.length_take,Nat.min_eq_left (by omega),Nat.zero_add]
 rfl
theorem Jo5:∀{l:List Ev} {h:Kn},∀e∈(Jc2 h l).1.2.1,e∈h.2.1∨e∈l
 |[],_,e,he=> .inl he
 | x :: l, h, e, he => by
  unfold Jc2 at he
  by_cases ha:Um h x=0
  ·rw[if_pos ha] at he
   rcases Jo5 e he with h1|h1
   ·unfold D3 at h1
    cases hk:x.2.1.toList==J2.toList with
    |true=>rw[hk,cond_true] at h1;exact .inl (List.mem_of_mem_take h1)
    |false=>
     rw[hk,cond_false] at h1
     rcases Yd h1 with h2|rfl
     ·exact .inl h2
     ·exact .inr (List.mem_cons_self ..)
   ·exact .inr (List.mem_cons_of_mem _ h1)
  ·rw[if_neg ha] at he;exact .inl he
theorem Jrf {l:List Ev}:∀e∈(Jd l).1.2.1,e∈l:=by
 unfold Jd
 by_cases h:1000<l.length
 ·rw[if_pos h];intro e he;cases he
 ·rw[if_neg h];intro e he;exact(Jo5 e he).elim (fun h=>by cases h) id
abbrev J5s (l:List Ev) (s:ByteArray):Ann:={X:=Kn×Nat,σ:=fun(h,k)=>⟨8,[(5, .one (.ptr 3 0)),(14, .one (.sl 0)),(15, .one (.int .i64 l.length)),(16, .one (.int .i64 k))],[(0, .imm 67 sEv l),(1, .box 9 [.str s]),(2, .sus [(3, .one (.ptr 1 0))]),(3, .box 167 [.sl 5, .sl 6, .sl 7]),(5, .own 67 sEv h.1),(6, .own 67 sEv h.2.1),(7, .own 105 Jm9 h.2.2)]⟩,inv:=fun(h,k)=>Y2 h∧h.1.length=k∧k≤l.length∧l.length≤1000∧Jc2 h (l.drop k)=Jd l,mu:=fun(_,k)=>l.length-k}
abbrev Kd2 (L:List Ev):Ann:={X:=Nat,σ:=fun k=>⟨1,[(11, .one (.sl 0)),(44, .one (.sl 0)),(45, .one (.int .i64 L.length)),(46, .one (.int .i64 k))],[(0, .own 67 sEv (Xx (L.take k) 0++L.drop k))]⟩,inv:=fun k=>k≤L.length,mu:=fun k=>L.length-k}
def J6j (a:Nat) (b:List Ev) (c:Bt):=Xx (List.take a (Y4 b c)) 0++List.drop a (Y4 b c)
def Kmy (a:Ev):=List.length a.2.2.1≤1000000∧List.length a.2.2.2.1≤1000000
def Kfg (a:Kn×Nat):=((Kf a.1.2.2).1,(Kf a.1.2.2).2.1,(Kf a.1.2.2).2.2.1,(Kf a.1.2.2).2.2.2.1,(Kf a.1.2.2).2.2.2.2.1,E2 (Kf a.1.2.2).2.2.2.2.2)
def Kxf (a:Kn×Nat):=Jj (Kfg a)
def Kjf (a:Kn×Nat) (b:Bt):=List.filter (fun(x:Ev)=>abS (Kfg a) x b) a.1.2.1
def Kv5 (a:Kn×Nat) (b:Bt):=List.map (fun(x:Ev)=>x) (Kjf a b)
def Kvo (a:Kn×Nat) (b:Bt):=Jg [0,bif bif true then !Ve (Kfg a) 0 b else false then 10 else 0]
def Kuk (a:Kn×Nat) (b:List Ev):=J9j a b==0
def Kui (a:Kn×Nat) (b:List Ev):=Kuk a b=true
def J70 (a:Kn×Nat) (b:List Ev) (c:Bt):=Jg [J9j a b,bif bif Kuk a b then Klj c else false then 10 else 0]
theorem K67:Ok Tryz.prog 16 Kci:=J2c K3t Tryz.f16 (U5 (l:=([(74,Tryz.f74)]:List (Nat×Func))) (List.forall_mem_cons.2 ⟨by kernel_rfl,by simp⟩)) (fun xx=>Xh (Kd2 (Y4 xx.1 xx.2.1))) (fun xx=>fun f id=>if f=74 then some (J5s xx.1 xx.2.1) else none) fun xx=>by
 obtain⟨(l:List Ev),(s:ByteArray),_⟩:=xx
 refine(by kernel_rfl:(lOk l→Br (decide (1000<Ln l)) ((Z35∧Jbb∧2≤1000000)∧Br true (Sf true ([]=Jak l s∧Jg [5,0]=Zd l s)) (Tw False)) (∃(x:(List Ev×List Ev×List Reg)×Nat),Si (Ln l) (0=Nc x.2∧Sf l (Sf s (Kll x)))∧Kfo x l∧∀(x:Kn×Nat),Kj5 x l→Br (decide (Nc x.2<Ln l)) (Tw (Z27 x l)∧Kil x l∧Br (Keo x l) (Z34 x∧((Kui x l→False)∧(Kui x l→Yq)∧2≤1000000)∧Br (J70 x l s !=0) (Sf true ([]=Jak l s∧J70 x l s=Zd l s)) (Tw False)) (Z34 x∧∃(y:(List Ev×List Ev×List Reg)×Nat),Si (Ln l) (Jyh x y∧Sf l (Sf s (J1m x l y)))∧Kje y l x)) (((true=true→Khi x)∧(true=true→Kxf x)∧2≤1000000)∧Br (Kvo x s !=0) (Sf true ([]=Jak l s∧Kvo x s=Zd l s)) (Khi x∧(List.length x.1.2.1≤1000000∧(∀(x_1:Ev),x_1∈x.1.2.1→Kxf x∧Jgw (Kfg x) x_1)∧List.length (Kjf x s)≤1000000∧∀(x_1:Ev),x_1∈Kjf x s→Kmy x_1)∧∃(x_1:Nat),(Ln (Kv5 x s)=Ln (Y4 l s)∧0=Nc x_1∧Kv5 x s=J6j x_1 l s)∧x_1≤List.length (Y4 l s)∧∀(x:Nat),x≤List.length (Y4 l s)→Br (decide (Nc x<Ln (Y4 l s))) ((Z14 x∧Tw (Bd (Nc x) (Ln (J6j x l s))))∧Z14 x∧∃(y:Nat),Si (Ln (Y4 l s)) (V9 x y∧List.set (J6j x l s) x (Nc x+1,(List.getD (J6j x l s) x Jae).2)=J6j y l s)∧y≤List.length (Y4 l s)∧List.length (Y4 l s)-y<List.length (Y4 l s)-x) (Sf true (J6j x l s=Jak l s∧0=Zd l s))))))=_).mp ?_
 delta Z14 Z27 Z34 Z35 V9 Jyh Jyf Jae Khi Kan Kam J22 Df J6j Kmy Vr Yq Kll Klj Jbb Kf1 Kf0 Kj5 Kfo Kfg Kxf Kjf Kje Kv5 Kvo Jx2 J9j Kio Kin Kuk Kui Kil Keo J70 J1m Br Iw Bd Tw Sf Si Ln Nc B0 E2
 intro hl
 refine⟨fun h=> ?_,fun h=> ?_⟩
 ·have e:Jd l=(Zz,0,5):=by unfold Jd;rw[if_pos (by have:=of_decide_eq_true h;omega)]
  have eE:Zd l s=5:=by unfold Zd;rw[e];rfl
  refine⟨⟨fun h=>(by cases h),fun h=>(by cases h),by decide⟩,fun _=>⟨rfl, ?_,eE.symm⟩,fun h=>(by cases h)⟩
  unfold Jak;rw[if_neg (by rw[eE];decide)]
 have hn:l.length≤1000:=by have:=of_decide_eq_false h;omega
 have e0:Jd l=Jc2 Zz l:=by unfold Jd;rw[if_neg (by omega)]
 refine⟨(Zz,(0:Nat)),⟨rfl,rfl,rfl,rfl,rfl,rfl,rfl⟩,⟨Hf,rfl,Nat.zero_le _,hn,e0.symm⟩,fun(x:Kn×Nat) hx=>⟨fun h1=> ?_,fun h1=> ?_⟩⟩
 ·obtain⟨g,k⟩:=x
  obtain⟨hi,hk,hk2,_,hrun⟩:=hx
  dsimp only at hi hk hk2 hrun
  have hlt:k<l.length:=by simpa using h1
  rw[Jt (d:=ev0) hlt,Jc2] at hrun
  have hz:=hl.2 _ (Jc (d:=ev0) hlt)
  have hev:(0,({data:={toList:=[]}}:ByteArray),([]:List ByteArray),([]:List Int),({data:={toList:=[]}}:ByteArray))=ev0:=rfl
  simp only[hev,Prod.eta]
  refine⟨by omega,⟨hi.ok,(show g.1.length<1000 by omega),hz⟩,fun h2=> ?_,fun h2=> ?_⟩
  ·have n2:Um g (l.getD k ev0)≠0:=bne_iff_ne.1 h2
   rw[if_neg n2] at hrun
   have b2:(Um g (l.getD k ev0)==0)=false:=beq_eq_false_iff_ne.2 n2
   have eE:Zd l s=Um g (l.getD k ev0):=by
    unfold Zd
    rw[←hrun]
    simp only[b2,cond_false]
    unfold Jg
    rw[if_neg n2]
   simp only[b2,cond_false]
   refine⟨by(repeat' first|apply And.intro|(first|omega|dsimp only;omega)),⟨fun h=>(nomatch h),fun h=>(nomatch h),by decide⟩,fun _=>⟨trivial, ?_, ?_⟩,fun h=> ?_⟩
   ·unfold Jak;rw[if_neg (by rw[eE];exact n2)]
   ·rw[eE];unfold Jg;rw[if_neg n2]
   ·have h:=bne_eq_false_iff_eq.1 h
    unfold Jg at h;rw[if_neg n2] at h;exact absurd h n2
  ·have z2:Um g (l.getD k ev0)=0:=bne_eq_false_iff_eq.1 h2
   rw[if_pos z2] at hrun
   have ea:Vi g (l.getD k ev0)=D3 g (l.getD k ev0):=by unfold Vi;rw[if_pos z2]
   rw[ea]
   have hk3:(D3 g (l.getD k ev0)).1.length=g.1.length+1:=D2
   exact⟨by(repeat' first|apply And.intro|(first|omega|dsimp only;omega)),(D3 g (l.getD k ev0),k+1),by(repeat' first|exact rfl|exact⟨⟩|apply And.intro|omega|dsimp only;omega),⟨Jfy hi (by(first|omega|dsimp only;omega)) z2,by(first|omega|dsimp only;omega),by(first|omega|dsimp only;omega),hn,hrun⟩,by(first|omega|dsimp only;omega)⟩
 ·obtain⟨g,k⟩:=x
  obtain⟨hi,hk,hk2,_,hrun⟩:=hx
  dsimp only at hi hk hk2 hrun
  have hlt:¬k<l.length:=by simpa using h1
  have:k=l.length:=by omega
  rw[this,List.drop_length,Jc2] at hrun
  simp only[Prod.eta]
  have eR:Jq l=Kf g.2.2:=by unfold Jq;rw[←hrun];rfl
  have eE:Zd l s=Jg [0,bif bif true then !Ve (Kf g.2.2) 0 s else false then 10 else 0]:=by
   unfold Zd;rw[←hrun,eR];rfl
  have eL:Y4 l s=g.2.1.filter fun e=>abS (Kf g.2.2) e s:=by unfold Y4;rw[←hrun,eR]
  rw[←eE]
  have hA:Jmh g:=by have:=Jy8 (l:=l);rw[←hrun] at this;exact this
  have nE:g.1.length≤1000:=hi.ok.nE
  have nC:g.2.1.length≤g.1.length:=hi.ok.nC
  have hsub:∀e∈g.2.1,e∈l:=by have:=Jrf (l:=l);rw[←hrun] at this;exact this
  have hfl:=List.length_filter_le (fun e=>abS (Kf g.2.2) e s) g.2.1
  have hL:(Y4 l s).length≤1000:=by rw[eL];omega
  refine⟨⟨fun _=>hi.ok,fun _=>X1 hi.ok,by decide⟩,fun h2=>⟨trivial, ?_,rfl⟩,fun h2=>⟨hi.ok,⟨Nat.le_trans nC (by omega),fun x hx=>⟨X1 hi.ok,Kb8 hi hA hx⟩,Nat.le_trans hfl (by omega),fun x hx=> ?_⟩,(0:Nat),⟨?_,rfl, ?_⟩,Nat.zero_le _,fun(k:Nat) hk=>⟨fun h3=> ?_,fun h3=> ?_⟩⟩⟩
  ·unfold Jak;rw[if_neg (bne_iff_ne.1 h2)]
  ·have:=hl.2 x (hsub x (List.mem_filter.1 hx).1)
   exact⟨this.1,this.2.1⟩
  ·rw[eL,List.map_id']
  ·rw[eL,List.map_id'];rfl
  ·have hlt:k<(Y4 l s).length:=by simpa using h3
   have hev:(0,({data:={toList:=[]}}:ByteArray),([]:List ByteArray),([]:List Int),({data:={toList:=[]}}:ByteArray))=ev0:=rfl
   rw[hev,Jt6 hlt]
   refine⟨⟨by omega, ?_⟩,by omega,(k+1:Nat),⟨trivial,by simp,Jt5 hlt⟩,by omega,by omega⟩
   rw[List.length_append,Dv,List.length_take,List.length_drop]
   omega
  ·have hlt:¬k<(Y4 l s).length:=by simpa using h3
   have:k=(Y4 l s).length:=by omega
   have z:Zd l s=0:=bne_eq_false_iff_eq.1 h2
   refine⟨trivial, ?_,z.symm⟩
   unfold Jak
   rw[if_pos z,this,List.take_length,List.drop_length,List.append_nil]
abbrev K8i:=K3t.add K67
namespace Cmp
open Go.Sx
set_option maxHeartbeats 20000000
def Ks4:Con:={args:=[.val true Ho, .val true Ho],ress:=[I],owns:=[],pre:=fun(x,y,_)=>[-1000000000≤x.1∧x.1≤1000000000,-1000000000≤y.1∧y.1≤1000000000],spec:=fun(x,y,_)=>(x.1-y.1,())}
theorem ok98 [Sx.Dr]:Ok Tryz.prog 98 Ks4:=okW W82 Tryz.f98 na fun xx=>by
 obtain⟨⟨(a:Int),(b:Int)⟩,⟨(c:Int),(d:Int)⟩,_⟩:=xx
 refine(by kernel_rfl:((-1000000000)≤a∧a≤1000000000→(-1000000000)≤c∧c≤1000000000→Iw (a-c)∧a-c=a-c)=_).mp ?_
 delta Iw
 intro h1 h2
 exact⟨by omega,rfl⟩
abbrev W83 [Sx.Dr]:=W82.add ok98
end Cmp
set_option maxHeartbeats 20000000
abbrev Spn:=Int×Int
def J1w:={x:Spn// -1000000000≤x.1∧x.1≤1000000000}
instance:Inhabited J1w:=⟨⟨(0,0),by decide,by decide⟩⟩
def Jr2 (x:J1w):List Value:=[.int .i64 x.1.1, .int .i64 x.1.2]
def Jvs (x y:J1w):Int:=x.1.1-y.1.1
theorem Jew {a b:J1w}:Proofs.ltOf Jvs a b=false↔b.1.1≤a.1.1:=by
 unfold Proofs.ltOf Jvs
 simp only[decide_eq_false_iff_not]
 omega
theorem Jnn (a b:J1w):Proofs.ltOf Jvs a b=true↔a.1.1<b.1.1:=by
 unfold Proofs.ltOf Jvs
 simp only[decide_eq_true_iff]
 omega
theorem K5m:Sort.SWO (Proofs.ltOf Jvs) where
 irrefl x:=Jew.2 (Int.le_refl _)
 trans x y z h1 h2:=(Jnn x z).2 (Int.lt_trans ((Jnn x y).1 h1) ((Jnn y z).1 h2))
 ntrans x y z h1 h2:=Jew.2 (Int.le_trans (Jew.1 h2) (Jew.1 h1))
theorem Jjt (M:Nat→Prop) (w:World) (x:J1w) (cs:List Value):Rep M w Ho x.1 cs↔cs=Jr2 x:=by
 constructor
 ·rintro⟨a,b,rfl,ha,hb⟩
  have ha:a=[.int .i64 x.1.1]:=ha
  have hb:b=[.int .i64 x.1.2]:=hb
  subst ha;subst hb;rfl
 ·rintro rfl
  exact⟨_,_,rfl,rfl,rfl⟩
theorem Jvr (w:World) (x y:J1w) (hG:Sx.Good Tryz.prog w):Calls Tryz.prog 98 #[.agg (Jr2 x).toArray, .agg (Jr2 y).toArray] w fun e w'=>e= .returned (.int .i64 (Jvs x y))∧RowKit.Below w.heap.size w w'∧w.drawn≤w'.drawn:=by
 have h:=(@Cmp.ok98 .on).2.2.2 rfl (x.1,y.1,()) (fun _=>False) (fun _=>False) w [.agg (Jr2 x).toArray, .agg (Jr2 y).toArray] (fun b hb=>by rcases hb with hb|hb<;>exact hb.elim) hG.on ⟨x.2,y.2⟩ ⟨_,_,rfl,⟨Jr2 x,rfl,(Jjt _ _ _ _).2 rfl⟩,_,_,rfl,⟨Jr2 y,rfl,(Jjt _ _ _ _).2 rfl⟩,rfl⟩
 refine h.mono ?_
 rintro e w' ⟨M',vs,rfl,hb,_,_,hr⟩
 obtain⟨v,vs',rfl,⟨cs,rfl,hc⟩,hr⟩:=hr
 have hc:cs=[.int .i64 (Jvs x y)]:=hc
 have hr:vs'=[]:=hr
 subst hc;subst hr
 exact⟨rfl,@Sx.Below.kit .on _ _ _ hb,hb.dr⟩
theorem Jzp (w:World):(isAgg 117).run Tryz.prog w= .ok true w:=by kernel_rfl
theorem Jtq (w:World):(Go.sizeOf 117).run Tryz.prog w= .ok 2 w:=by kernel_rfl
theorem Kbr (g cap:Nat) (d:Array J1w) (w:World) (hH:Sort.HoldsK Jr2 2 w g 0 d) (hg:g<w.heap.size) (hd:d.size<4611686018427387904) (hc:Proofs.CmpLays Tryz.prog 98 #[] Jr2 2 Jvs g 0 d.size w):
  Calls Tryz.prog 97 #[.slice (some ⟨g,0,none⟩) d.size cap, .func (.func 98) #[] #[]] w fun e w'=>e= .returned (.tuple #[])∧∃d' n os,Sort.PermIn 0 d.size d d'∧Sort.SortedIn (Proofs.ltOf Jvs) 0 d.size d'∧w'=Proofs.sortWorldK Jr2 2 w g 0 n d' os:=by
 have eg:∀args w,(callFunc 98 args).run Tryz.prog w= .ok (.enter 98 args) w:=Proofs.enters_of Tryz.func98 (by kernel_rfl) rfl
 exact Proofs.AnyQ.slices_SortFunc Proofs.Tryz.sortS 2 Jzp Jtq Jr2 (fun _=>rfl) (fun x v hv=>by simp[Jr2] at hv;rcases hv with rfl|rfl<;>rfl) Jvs K5m 98 #[] g 0 cap d w eg hc hH hg hd
theorem Jm7 (w:World):Calls Tryz.prog 97 #[.slice none 0 0, .func (.func 98) #[] #[]] w fun e w'=>e= .returned (.tuple #[])∧w'=w:=
 Proofs.AnyF.slices_SortFunc_none Proofs.Tryz.sortS none 0 _ w
def Kh7 (l:List Spn):Prop:=(∀x∈l,-1000000000≤x.1∧x.1≤1000000000)∧l.length≤1000000
def J3y (xs ys:List Spn):Prop:=ys.Perm xs∧ys.Pairwise fun a b=>a.1≤b.1
theorem Jpk {p:Spn→Prop}:∀l:List Spn,(∀x∈l,p x)→∃zs:List {x:Spn//p x},l=zs.map Subtype.val
 |[],_=>⟨[],rfl⟩
 |x::l,h=>by
  obtain⟨zs,e⟩:=Jpk l fun y hy=>h y (List.mem_cons_of_mem _ hy)
  exact⟨⟨x,h x (List.mem_cons_self ..)⟩::zs,by rw[List.map_cons,←e]⟩
theorem Jtp:Jxq Tryz.prog 97 {T:=117,s:=Ho,g:=98,pre:=Kh7,f:=id,rel:=some J3y}:=
 Jyy (s:=Ho) (T:=117) (β:=J1w) (k:=2) Subtype.val Jr2 (fun _=>rfl) rfl Jjt Jvs Kh7 id J3y Kbr Jm7 Jvr
  (fun xs h=>Jpk xs h.1)
  (fun xs ys hp hs=>⟨hp.map _,List.pairwise_map.2 (hs.imp fun h=>Jew.1 h)⟩)
  (fun xs h=>h.2)
def Kcj:Con:={args:=[],ress:=[],owns:=[],pre:=fun _=>[False],spec:=fun _=>(),srt:=some {T:=117,s:=Ho,g:=98,pre:=Kh7,f:=id,rel:=some J3y}}
theorem K5r:Ok Tryz.prog 97 Kcj:=⟨⟨Tryz.f97,by kernel_rfl,by kernel_rfl,by kernel_rfl⟩,fun z hz=>(by cases hz;exact Jtp),fun F hF=>(by cases hF),fun h=>by cases h⟩
abbrev K3s:=K8i.add K5r
def J43:Con:={args:=[.val false (.list 188 Xp), .fn [(true,Xp)] (true,Ho)],ress:=[(false, .list 117 Ho)],owns:=[true],pre:=fun(l,(q,_),_)=>[l.length≤1000000,∀x∈l,Un (q (x,()))],spec:=fun(l,(_,f),_)=>(l.map fun x=>f (x,()),())}
def Kaq (a:Out×Unit→Spn) (b:Nat) (c:List Out):=List.map (fun(x:Out)=>a (x,PUnit.unit)) (List.take b c)
theorem K5v:Ok Tryz.prog 93 J43:=okW K3s Tryz.f93 (fun xx=>Xh (Ja9 188 117 Xp xx.1 (true,Ho) true xx.2.1.1 xx.2.1.2)) fun xx=>by
 obtain⟨(l:List Out),⟨(q:Out×Unit→List Prop),(f:Out×Unit→Spn)⟩,_⟩:=xx
 refine(by kernel_rfl:(Z59 l→J21 l q→∃(x:Nat),Si (Ln l) (0=Nc x∧Sf l ((fun(x:Out×PUnit)=>q x)=q∧(fun(x:Out×PUnit)=>f x)=f∧List.length (Kaq f x l)=0))∧x≤List.length l∧∀(x:Nat),x≤List.length l→Br (Z86 x l) (Tw (Z22 x l)∧(J2x q l x∧(List.length (Kaq f x l)+1)*16≤140737488355328)∧Z14 x∧∃(y:Nat),Si (Ln l) (V9 x y∧Sf l ((fun(x:Out×PUnit)=>q x)=q∧(fun(x:Out×PUnit)=>f x)=f∧Kaq f x l++[E2 (f (J2y l x))]=Kaq f y l))∧J6k y l x) (Kaq f x l=List.map (fun(x:Out)=>f (x,PUnit.unit)) l))=_).mp ?_
 delta Z14 Z22 Z59 Z86 V9 Jgb Jyd J04 J03 J24 Kaq J6k J21 J9l J2y J2x Br Iw Bd Tw Sf Si Ln Nc B0 E2
 intro hb hq
 refine⟨(0:Nat),⟨rfl,rfl,rfl,rfl,rfl,by simp⟩,Nat.zero_le _,fun(k:Nat) hk=>⟨fun h=> ?_,fun h=> ?_⟩⟩
 ·have hlt:k<l.length:=by simpa using h
  refine⟨by omega,⟨hq (l.getD k Jbd) (Jc hlt),by simp only[List.length_map,List.length_take];omega⟩,by omega,(k+1:Nat),⟨rfl,by simp,rfl,rfl,rfl, ?_⟩,by omega,by omega⟩
  rw[←Us (d:=Jbd) hlt,List.map_append];rfl
 ·have hlt:¬k<l.length:=by simpa using h
  rw[List.take_of_length_le (by omega)]
abbrev K3r:=K3s.add K5v
def K7x:Con:={args:=[.val true Xp, .ref 9 .str],ress:=[Bo],owns:=[],pre:=fun _=>[],spec:=fun(x,s,_)=>(x.2.1.toList==s.toList,())}
theorem K5t:Ok Tryz.prog 95 K7x:=okW K3r Tryz.f95 na fun xx=>by
 obtain⟨⟨(n:ByteArray),(f:ByteArray),⟨(a:Int),(b:Int)⟩,(p:Int)⟩,(s:ByteArray),_⟩:=xx
 refine(by kernel_rfl:(Lb f s=Lb f s)=_).mp ?_
 delta Lb
 rfl
abbrev K3q:=K3r.add K5t
def K7w:Con:={args:=[.val true Xp],ress:=[(true,Ho)],owns:=[],pre:=fun _=>[],spec:=fun(x,_)=>(x.2.2.1,())}
theorem K5s:Ok Tryz.prog 96 K7w:=okW K3q Tryz.f96 na fun xx=>by
 obtain⟨⟨(n:ByteArray),(f:ByteArray),⟨(a:Int),(b:Int)⟩,(p:Int)⟩,_⟩:=xx
 refine(by kernel_rfl:((a,b)=(a,b))=_).mp ?_
 rfl
abbrev K3p:=K3q.add K5s
def avL (st:Int):List Spn→Int×Int→Int×Int
 |[],a=>a
 |s::l,(n,last)=>avL st l (n-max 0 (min s.2 st-max s.1 last),max last (min s.2 st))
theorem J5n {st:Int} {a b:Spn} {l:List Spn} {p:Int×Int} (h:a.1=b.1):avL st (a::b::l) p=avL st (b::a::l) p:=by
 obtain⟨n,last⟩:=p
 simp only[avL]
 congr 1
 refine Prod.ext ?_ ?_<;>dsimp only<;>omega
theorem Jp9 {st:Int} {x:Spn} {bs:List Spn}:∀{us:List Spn} {p:Int×Int},(∀y∈us,y.1=x.1)→avL st (us++x::bs) p=avL st (x::(us++bs)) p
 |[],_,_=>rfl
 | y :: us, (n, last), h => by
  have h1:=Jp9 (st:=st) (x:=x) (bs:=bs) (us:=us) (p:=(n-max 0 (min y.2 st-max y.1 last),max last (min y.2 st))) fun z hz=>h z (List.mem_cons_of_mem _ hz)
  have e:avL st (y::(us++x::bs)) (n,last)=avL st (y::x::(us++bs)) (n,last):=by
   simp only[avL] at h1⊢
   exact h1
  rw[List.cons_append,e,J5n (h y (List.mem_cons_self ..)),List.cons_append]
theorem Jwn {st:Int}:∀{xs ys:List Spn} {p:Int×Int},ys.Perm xs→(xs.Pairwise fun a b=>a.1≤b.1)→(ys.Pairwise fun a b=>a.1≤b.1)→avL st ys p=avL st xs p
 |[],ys,p,h,_,_=>by rw[List.Perm.eq_nil h]
 | x :: xs, ys, (n, last), h, h1, h2 => by
  have hx:x∈ys:=h.mem_iff.2 (List.mem_cons_self ..)
  obtain⟨us,bs,rfl⟩:=List.append_of_mem hx
  have h1:=List.pairwise_cons.1 h1
  have h2':=List.pairwise_append.1 h2
  have hk:∀y∈us,y.1=x.1:=fun y hy=>by
   have a1:=h2'.2.2 y hy x (List.mem_cons_self ..)
   have:y∈x::xs:=h.mem_iff.1 (List.mem_append_left _ hy)
   rcases List.mem_cons.1 this with rfl|hm
   ·rfl
   ·have:=h1.1 y hm
    omega
  rw[Jp9 hk]
  have hp:(us++bs).Perm xs:=((List.perm_middle (a:=x) (l₁:=us) (l₂:=bs)).symm.trans h).cons_inv
  have hs:(us++bs).Pairwise fun a b=>a.1≤b.1:=List.Pairwise.sublist (List.Sublist.append (List.Sublist.refl _) (List.sublist_cons_self ..)) h2
  show avL st (us++bs) _=avL st xs _
  exact Jwn hp h1.2 hs
def J4k (x:Spn):List Spn→List Spn
 |[]=>[x]
 |y::r=>if x.1≤y.1 then x::y::r else y::J4k x r
def Jyz:List Spn→List Spn
 |[]=>[]
 |x::r=>J4k x (Jyz r)
theorem Je1 (x:Spn):∀l,(J4k x l).Perm (x::l)
 |[]=> .refl _
 |y::r=>by
  simp only[J4k]
  split
  ·exact .refl _
  ·exact((Je1 x r).cons y).trans (.swap x y r)
theorem Jg3:∀l,(Jyz l).Perm l
 |[]=> .refl _
 |x::r=>(Je1 x _).trans ((Jg3 r).cons x)
theorem Je0 {x:Spn}:∀{l:List Spn},(l.Pairwise fun a b=>a.1≤b.1)→(J4k x l).Pairwise fun a b=>a.1≤b.1
 |[],_=>by simp[J4k]
 | y :: r, h => by
  have h0:=List.pairwise_cons.1 h
  simp only[J4k]
  split
  ·rename_i hlt
   refine List.pairwise_cons.2 ⟨fun z hz=> ?_,h⟩
   rcases List.mem_cons.1 hz with rfl|hz
   ·exact hlt
   ·exact Int.le_trans hlt (h0.1 z hz)
  ·rename_i hlt
   refine List.pairwise_cons.2 ⟨fun z hz=> ?_,Je0 h0.2⟩
   rcases List.mem_cons.1 ((Je1 x r).mem_iff.1 hz) with rfl|hz
   ·omega
   ·exact h0.1 z hz
theorem Jcf:∀{l:List Spn},(Jyz l).Pairwise fun a b=>a.1≤b.1
 |[]=> .nil
 |x::r=>Je0 Jcf
def Jlb (X:List Out) (s:ByteArray):List Spn:=(X.filter fun x=>x.2.1.toList==s.toList).map fun x=>x.2.2.1
def avN (st:Int) (X:List Out) (s:ByteArray):Int:=(avL st (Jyz (Jlb X s)) (st,0)).1
def avE (l:List Ev) (s:ByteArray):Int:=Jg [opE l [s],bif (Jq l).2.1==0 then 6 else 0]
def avP (l:List Ev) (s:ByteArray):Int×Int:=if avE l s=0 then Jsq (avN (Jq l).2.1 (Jq l).2.2.2.2.2.1 s) (Jq l).2.1 else(0,0)
def Ks9:Con:={args:=[.val false (.list 67 sEv),aS],ress:=[(true,Ho),I],owns:=[],pre:=fun(l,_)=>[lOk l],spec:=fun(l,s,_)=>(avP l s,avE l s,())}
abbrev Ktg (l:List Ev) (s:ByteArray):Ann:={X:=Nat×Int×Int×List Spn,σ:=fun(k,n,last,ys)=>⟨14,[(4, .one (.ptr 2 0)),(6, .one (.ptr 9 0)),(9, .one (.int .i64 n)),(11, .one (.int .i64 last)),(43, .one (.sl 13)),(44, .one (.int .i64 ys.length)),(45, .one (.int .i64 k))],[(2, .box 54 [.int .i64 0, .int .i64 0]),(9, .box 105 [.int .i64 (Jq l).1, .int .i64 (Jq l).2.1, .sl 4, .sl 5, .sl 6, .sl 7, .sl 8]),(4, .imm 127 L5 (Jq l).2.2.1),(5, .imm 130 Zx (Jq l).2.2.2.1),(6, .imm 155 Dd (Jq l).2.2.2.2.1),(7, .imm 188 Xp (Jq l).2.2.2.2.2.1),(8, .imm 235 X7 (Jq l).2.2.2.2.2.2),(13, .own 117 Ho ys)]⟩,inv:=fun(k,n,last,ys)=>k≤ys.length∧J3y (Jlb (Jq l).2.2.2.2.2.1 s) ys∧(0≤last∧last≤(Jq l).2.1)∧((Jq l).2.1-last≤n∧n≤(Jq l).2.1)∧avL (Jq l).2.1 (ys.drop k) (n,last)=avL (Jq l).2.1 ys ((Jq l).2.1,0),mu:=fun(k,_,_,ys)=>ys.length-k}
def K1t (a:Nat×Int×Int×List Spn) (b:List Ev):=min (List.getD a.2.2.2 a.1 (0,0)).2 (Jq b).2.1
def K01 (a:List Ev) (b:Bt):=Jg [opE a [b],bif (Jq a).2.1==0 then 6 else 0]
def Kky (a:Bt) (b:List Ev):=List.filter (fun(x:Out)=>List.beq (ByteArray.toList x.2.1) (ByteArray.toList a)) (Jq b).2.2.2.2.2.1
def Kxk (a:Bt) (b:List Ev):=List.map (fun(x:Out)=>x.2.2.1) (Kky a b)
def Kxa (a:Nat×Int×Int×List Spn) (b:List Ev):=K1t a b-max (List.getD a.2.2.2 a.1 (0,0)).1 a.2.2.1
def Kwd (a:Nat×Int×Int×List Spn) (b:List Ev):=a.2.1-max 0 (Kxa a b)
def Kvc (a:Nat×Int×Int×List (Int×Int)) (b:List Ev) (c:Bt):=a.1≤List.length a.2.2.2∧J3y (Jlb (Jq b).2.2.2.2.2.1 c) a.2.2.2∧(0≤a.2.2.1∧a.2.2.1≤(Jq b).2.1)∧((Jq b).2.1-a.2.2.1≤a.2.1∧a.2.1≤(Jq b).2.1)∧avL (Jq b).2.1 (List.drop a.1 a.2.2.2) (a.2.1,a.2.2.1)=avL (Jq b).2.1 a.2.2.2 ((Jq b).2.1,0)
theorem K60:Ok Tryz.prog 27 Ks9:=J2c K3p Tryz.f27 (U5 (l:=([]:List (Nat×Func))) (by simp)) (fun xx=>Xh (Ktg xx.1 xx.2.1)) (fun xx=>fun _=>na ()) fun xx=>by
 obtain⟨(l:List Ev),(s:ByteArray),_⟩:=xx
 refine(by kernel_rfl:(lOk l→(lOk l∧1≤1000000)∧2≤1000000∧Br (K01 l s !=0) (Sf true ((0,0)=avP l s∧K01 l s=avE l s)) ((List.length (Jq l).2.2.2.2.2.1≤1000000∧(∀(x:Out),x∈(Jq l).2.2.2.2.2.1→True)∧List.length (Kky s l)≤1000000∧∀(x:Out),x∈Kky s l→True)∧Kh7 (Kxk s l)∧∀(ys:List (Int×Int)),J3y (Kxk s l) ys→∃(x:Nat×Int×Int×List (Int×Int)),((Jq l).2.1=x.2.1∧0=x.2.2.1∧Ln ys=Ln x.2.2.2∧0=Nc x.1∧Si 0 (Si 0 ((Jq l).1=(Jq l).1∧(Jq l).2.1=(Jq l).2.1∧(Jq l).2.2.1=(Jq l).2.2.1∧Kht l∧Khq l∧Kho l∧Khn l∧ys=x.2.2.2)))∧Kvc x l s∧∀(x:Nat×Int×Int×List Spn),x.1≤List.length x.2.2.2∧J3y (Jlb (Jq l).2.2.2.2.2.1 s) x.2.2.2∧(0≤x.2.2.1∧x.2.2.1≤(Jq l).2.1)∧((Jq l).2.1-x.2.2.1≤x.2.1∧x.2.1≤(Jq l).2.1)∧avL (Jq l).2.1 (List.drop x.1 x.2.2.2) (x.2.1,x.2.2.1)=avL (Jq l).2.1 x.2.2.2 ((Jq l).2.1,0)→Br (decide (Nc x.1<Ln x.2.2.2)) (Tw (Bd (Nc x.1) (Ln x.2.2.2))∧(Iw (Kxa x l)∧Iw (Kwd x l))∧Iw (Nc x.1+1)∧∃(y:Nat×Int×Int×List (Int×Int)),(Kwd x l=y.2.1∧max x.2.2.1 (K1t x l)=y.2.2.1∧Ln x.2.2.2=Ln y.2.2.2∧Nc x.1+1=Nc y.1∧Si 0 (Si 0 (Si (Jq l).1 (Si (Jq l).2.1 ((Jq l).2.2.1=(Jq l).2.2.1∧Kht l∧Khq l∧Kho l∧Khn l∧x.2.2.2=y.2.2.2)))))∧Kvc y l s∧List.length y.2.2.2-y.1<List.length x.2.2.2-x.1) (((0≤x.2.1∧x.2.1≤1000000000000)∧1≤(Jq l).2.1∧(Jq l).2.1≤1000000000000)∧Sf true (E2 (Jsq x.2.1 (Jq l).2.1)=avP l s∧0=avE l s))))=_).mp ?_
 delta Kht Khq Kho Khn K1t K01 Kky Kxk Kxa Kwd Kvc Br Iw Bd Tw Sf Si Ln Nc E2
 intro hl
 have hr:=Lj (l:=l)
 have hz:Jlb (Jq l).2.2.2.2.2.1 s=List.map (fun x=>x.2.2.1) (List.filter (fun x=>x.2.1.toList.beq s.toList) (Jq l).2.2.2.2.2.1):=rfl
 rw[←hz]
 have nX:(Jq l).2.2.2.2.2.1.length≤16:=hr.nX
 have hX:∀x∈Jlb (Jq l).2.2.2.2.2.1 s,Jmg x:=fun x hx=>by
  obtain⟨y,hy,rfl⟩:=List.mem_map.1 hx
  exact(hr.out y (List.mem_filter.1 hy).1).span
 have hlen:(Jlb (Jq l).2.2.2.2.2.1 s).length≤16:=by
  unfold Jlb
  rw[List.length_map]
  exact Nat.le_trans (List.length_filter_le _ _) nX
 have hst:=hr.st
 have htk:=hr.tk
 refine⟨⟨hl,by decide⟩,by decide,fun h=> ?_,fun h=>⟨⟨Nat.le_trans nX (by decide),fun _ _=>trivial,Nat.le_trans (List.length_filter_le _ _) (Nat.le_trans nX (by decide)),fun _ _=>trivial⟩,⟨fun x hx=> ?_,by omega⟩,fun ys hy=>⟨((0:Nat),(Jq l).2.1,0,ys),by(repeat' first|exact rfl|exact⟨⟩|apply And.intro|omega|dsimp only;omega),⟨Nat.zero_le _,hy,by(first|omega|dsimp only;omega),by(first|omega|dsimp only;omega),rfl⟩,fun(x:Nat×Int×Int×List Spn) hk=>⟨fun h1=> ?_,fun h1=> ?_⟩⟩⟩⟩
 ·have h:avE l s≠0:=bne_iff_ne.1 h
  refine⟨rfl, ?_,rfl⟩
  unfold avP;rw[if_neg h]
 ·have:=hX x hx
  have h1:=this.lo
  have h2:=this.mid
  have h3:=this.hi
  omega
 ·obtain⟨k,n,last,ys⟩:=x
  obtain⟨k1,k2,k3,k4,k5⟩:=hk
  have hlt:k<ys.length:=by simpa using h1
  have hx:=hX _ (k2.1.mem_iff.1 (Jc (d:=((0:Int),(0:Int))) hlt))
  have x1:=hx.lo
  have x2:=hx.mid
  have x3:=hx.hi
  dsimp only at k1 k2 k3 k4 k5
  rw[Jt (d:=((0:Int),(0:Int))) hlt,avL] at k5
  have hln:ys.length≤16:=by rw[k2.1.length_eq];exact hlen
  dsimp only
  generalize ys.getD k (0,0)=y at x1 x2 x3 k5⊢
  obtain⟨a,b⟩:=y
  dsimp only at x1 x2 x3 k5⊢
  refine⟨by omega,by omega,by omega,(k+1,n-max 0 (min b (Jq l).2.1-max a last),max last (min b (Jq l).2.1),ys),by(repeat' first|exact rfl|exact⟨⟩|apply And.intro|omega|dsimp only;omega),⟨by(first|omega|dsimp only;omega),k2,by(first|omega|dsimp only;omega),by(first|omega|dsimp only;omega),k5⟩,by(first|omega|dsimp only;omega)⟩
 ·obtain⟨k,n,last,ys⟩:=x
  obtain⟨k1,k2,k3,k4,k5⟩:=hk
  have hlt:¬k<ys.length:=by simpa using h1
  dsimp only at k1 k2 k3 k4 k5
  have e:k=ys.length:=by omega
  rw[e,List.drop_length,avL] at k5
  have h:avE l s=0:=bne_eq_false_iff_eq.1 h
  have hs:(Jq l).2.1≠0:=fun h0=>by
   have:=(Zp h).2
   rw[h0] at this
   exact absurd this (by decide)
  have e2:avN (Jq l).2.1 (Jq l).2.2.2.2.2.1 s=n:=by
   unfold avN
   rw[Jwn (k2.1.trans (Jg3 _).symm) Jcf k2.2] at k5
   rw[←k5]
  refine⟨⟨by(first|omega|dsimp only;omega),by omega⟩,rfl, ?_,h.symm⟩
  unfold avP
  rw[if_pos h,e2]
abbrev K3o:=K3p.add K60
def Jz4:Con:={args:=[aI],ress:=[tS],owns:=[],pre:=fun(n,_)=>[-(10^17:Int)<n,n<10^18],spec:=fun(n,_)=>(X4 n,())}
def Kmn:=10^18
def K1p (a:Int):=a<Kmn
def Kli:= -10^17
def K0g (a:Int):=Kli<a
theorem Krw:Ok Tryz.prog 117 Jz4:=okW K3o Tryz.f117 na fun xx=>by
 obtain⟨(n:Int),_⟩:=xx
 refine(by kernel_rfl:(K0g n→K1p n→(17≤18∧K0g n∧K1p n)∧X4 n=X4 n)=_).mp ?_
 delta Kmn K1p Kli K0g
 intro h1 h2
 exact⟨⟨by decide,h1,h2⟩,rfl⟩
abbrev K3n:=K3o.add Krw
def Jud (s:ByteArray) (j:Nat):ByteArray:=bs (List.replicate j 48++Lib.itoa (Jgd s))
abbrev J0l (s:ByteArray):Nat→Option Ann:=fun id=>if id=0 then some {X:=Nat×Int,σ:=fun(k,x)=>⟨0,[(0, .one (.str s)),(3, .one (.int .i64 x)),(4, .one (.int .i64 k))],[]⟩,inv:=fun(k,x)=>k≤s.size∧(0≤x∧x<9999721)∧Jsm (s.data.toList.drop k) x=Jgd s,mu:=fun(k,_)=>s.size-k}
 else if id=2 then some {X:=Nat,σ:=fun j=>⟨0,[(5, .one (.str (Jud s j)))],[]⟩,inv:=fun j=>j+(Lib.itoa (Jgd s)).length≤7,mu:=fun j=>7-j} else none
def Knk (a:Nat) (b:Bt):=a+List.length (Lib.itoa (Jgd b))≤7
theorem K6g:Ok Tryz.prog 67 K22:=okW K3n Tryz.f67 (fun xx=>J0l xx.1) fun xx=>by
 obtain⟨(s:ByteArray),_⟩:=xx
 refine(by kernel_rfl:(ByteArray.size s≤1000000→∃(x:Nat×Int),Sf s (1=x.2∧0=Nc x.1)∧J6g x s∧∀(x:Nat×Int),J6g x s→Br (decide (Nc x.1<Nc (ByteArray.size s))) (Kiy x s∧Z40 x∧∃(y:Nat×Int),Sf s (Klf x s y∧Jmn x y)∧Kjx y s x) ((Kli<x.2∧x.2<Kmn)∧∃(x_1:Nat),X4 x.2=Jud s x_1∧Knk x_1 s∧∀(x:Nat),Knk x s→Br (decide (Nc (ByteArray.size (Jud s x))<7)) (Nc (1+ByteArray.size (Jud s x))≤9223372036854775807∧∃(y:Nat),ByteArray.mk (Array.mk (48::([]++(Jud s x).data.toList)))=Jud s y∧Knk y s∧7-y<7-x) (Jud s x=Jov s)))=_).mp ?_
 delta Z12 Z40 Jmn Knk Kmp Kmn Kli Klf J6g Kjx Kiy Br Iw Bd Sf Nc
 intro hs
 refine⟨((0:Nat),(1:Int)),by(repeat' first|exact rfl|exact⟨⟩|apply And.intro|omega|dsimp only;omega),⟨Nat.zero_le _,by(first|omega|dsimp only;omega),rfl⟩,fun(y:Nat×Int) hk=>⟨fun h=> ?_,fun h=> ?_⟩⟩
 ·obtain⟨k,x⟩:=y
  have hlt:k<s.size:=by simpa using h
  obtain⟨k1,k2,k3⟩:=hk
  dsimp only at k1 k2
  rw[Dp hlt,Jsm] at k3
  have hb:=Jwc s k
  refine⟨by(repeat' first|apply And.intro|(first|omega|dsimp only;omega)),by(repeat' first|apply And.intro|(first|omega|dsimp only;omega)),(k+1,(341*x+((s.data.toList.getD k 0).toNat:Int)).tmod 9999721),by(repeat' first|exact rfl|exact⟨⟩|apply And.intro|omega|dsimp only;omega),⟨by(first|omega|dsimp only;omega),⟨Int.tmod_nonneg _ (by omega),Int.tmod_lt_of_pos _ (by decide)⟩,k3⟩,by(first|omega|dsimp only;omega)⟩
 ·obtain⟨k,x⟩:=y
  have hlt:¬k<s.size:=by simpa using h
  obtain⟨k1,k2,k3⟩:=hk
  have e:k=s.size:=by omega
  rw[e,List.drop_eq_nil_of_le (by simp),Jsm] at k3
  have k3:x=Jgd s:=k3
  have hl:=Jij s
  dsimp only
  rw[k3]
  have hb:=Jm3 s
  have hsz:∀j,(Jud s j).size=j+(Lib.itoa (Jgd s)).length:=fun j=>by
   unfold Jud
   rw[Xf,List.length_append,List.length_replicate]
  refine⟨⟨by omega,by omega⟩,(0:Nat),rfl,by omega,fun(j:Nat) hj=>⟨fun h=> ?_,fun h=> ?_⟩⟩
  ·have h:((Jud s j).size:Int)<7:=of_decide_eq_true h
   have hz:=hsz j
   refine⟨by omega,j+1,rfl,by omega,by omega⟩
  ·have h:¬((Jud s j).size:Int)<7:=of_decide_eq_false h
   have hz:=hsz j
   have:j=7-(Lib.itoa (Jgd s)).length:=by omega
   rw[this];rfl
abbrev K3m:=K3n.add K6g
theorem Jlp:∀{l:List (List UInt8)} {b:Nat},(∀x∈l,x.length≤b)→(Lib.join l []).length≤b*l.length
 |[],_,_=>by simp[Lib.join,List.intercalate]
 |[x],b,h=>by
  have:=h x (List.mem_cons_self ..)
  simpa[Lib.join,List.intercalate,List.intersperse] using this
 |x::y::r,b,h=>by
  have ih:=Jlp (l:=y::r) fun z hz=>h z (List.mem_cons_of_mem _ hz)
  have hx:=h x (List.mem_cons_self ..)
  have e:Lib.join (x::y::r) []=x++Lib.join (y::r) []:=by simp[Lib.join,List.intercalate,List.intersperse]
  rw[e,List.length_append,List.length_cons,Nat.mul_add]
  omega
def J5c:Con:={args:=[.ref 212 Jiu],ress:=[(false, .list 67 sEv)],owns:=[],pre:=fun(h,_)=>[h.1.length≤1000,∀e∈h.1,Jfj e],spec:=fun(h,_)=>(h.1,())}
theorem K6u:Ok Tryz.prog 41 J5c:=okW K3m Tryz.f41 na fun xx=>by
 obtain⟨⟨(E:List Ev),(C:List Ev),(G:List Reg)⟩,_⟩:=xx
 refine(by kernel_rfl:(List.length E≤1000→(∀(e:Ev),J1a E e→Jfj e)→Br false ([]=E) ((Z38 E∧∀(x:Ev),J1a E x→Kmy x)∧List.map (fun(x:Ev)=>x) E=E))=_).mp ?_
 delta Z38 J1a Kmy Br
 intro h1 h2
 refine⟨fun h=>(nomatch h),fun _=>⟨⟨by omega,fun x hx=>⟨(h2 x hx).1,(h2 x hx).2.1⟩⟩,List.map_id' _⟩⟩
abbrev K3l:=K3m.add K6u
def Ksb (l:List Ev):ByteArray:=Vp (l.map J30) Ja
def K7n:Con:={args:=[.ref 212 Jiu],ress:=[tS],owns:=[],pre:=fun(h,_)=>[h.1.length≤1000,∀e∈h.1,L4 e],spec:=fun(h,_)=>(Ksb h.1,())}
def Knr (a:List Ev):=List.map (fun(x:Ev)=>J30 x) a
def K2b (a:List Ev):=∀(x:Ev),J1a a x→L4 x
theorem K6t:Ok Tryz.prog 42 K7n:=okW K3l Tryz.f42 na fun xx=>by
 obtain⟨⟨(E:List Ev),(C:List Ev),(G:List Reg)⟩,_⟩:=xx
 refine(by kernel_rfl:(List.length E≤1000→K2b E→Br false (B0=Ksb E) ((Z38 E∧K2b E∧List.length (Knr E)≤1000000∧List.length (Lib.join (List.map (fun(x:ByteArray)=>Z12 x) (Knr E)) [])≤140737488355328)∧Vp (Knr E) B0=Ksb E))=_).mp ?_
 delta Z12 Z38 Knr J1a K2b Br B0
 intro h1 h2
 refine⟨fun h=>(nomatch h),fun _=>⟨⟨by omega,h2,by rw[List.length_map];omega, ?_⟩,rfl⟩⟩
 refine Nat.le_trans (Jlp (b:=2000000) fun z hz=> ?_) ?_
 ·rw[List.map_map] at hz
  obtain⟨e,he,rfl⟩:=List.mem_map.1 hz
  have:=Jt9 (h2 e he)
  have:=Jp7 (h2 e he)
  show(J30 e).size≤2000000
  omega
 ·rw[List.length_map,List.length_map];omega
abbrev K8h:=K3l.add K6t
def Jrc:List Say:=[(⟨⟨[115,116,97,116,105,111,110,32,97,32,48,32,49,48]⟩⟩,⟨⟨[100,111,110,101,32,49]⟩⟩,0),(⟨⟨[115,116,97,116,105,111,110,32,98,32,48,32,56]⟩⟩,⟨⟨[100,111,110,101,32,50]⟩⟩,0),(⟨⟨[112,114,105,99,101,32,97,32,48,32,53]⟩⟩,⟨⟨[100,111,110,101,32,51]⟩⟩,0),(⟨⟨[111,114,100,101,114,32,111,49,32,97,32,98,32,49,32,50,32,53,32,54]⟩⟩,⟨⟨[100,111,110,101,32,52]⟩⟩,0),(⟨⟨[111,114,100,101,114,32,111,50,32,98,32,97,32,49,32,50,32,53,32,51]⟩⟩,⟨⟨[]⟩⟩,4),(⟨⟨[111,117,116,97,103,101,32,121,32,98,32,49,32,51,32,52,32,53]⟩⟩,⟨⟨[]⟩⟩,24),(⟨⟨[111,117,116,97,103,101,32,120,32,98,32,49,32,53,32,55,32,48]⟩⟩,⟨⟨[100,111,110,101,32,53]⟩⟩,0),(⟨⟨[112,101,114,109,105,116,32,112,32,120,32,53]⟩⟩,⟨⟨[100,111,110,101,32,54]⟩⟩,0),(⟨⟨[109,105,115,115,105,110,103]⟩⟩,⟨⟨[111,49,32,50,32,111,49,32,51,32,111,49,32,52]⟩⟩,0),(⟨⟨[111,117,116,97,103,101,115]⟩⟩,⟨⟨[120]⟩⟩,0),(⟨⟨[116,114,105,112,32,111,49,32,53]⟩⟩,⟨⟨[]⟩⟩,23),(⟨⟨[109,101,116,101,114,32,111,49,32,53,32,50,32,54,32,54]⟩⟩,⟨⟨[100,111,110,101,32,55]⟩⟩,0),(⟨⟨[109,101,116,101,114,32,111,49,32,53,32,51,32,54,32,53]⟩⟩,⟨⟨[100,111,110,101,32,56]⟩⟩,0),(⟨⟨[115,101,116,116,108,101,32,53,32,53]⟩⟩,⟨⟨[]⟩⟩,32),(⟨⟨[109,101,116,101,114,32,111,49,32,53,32,52,32,52,32,51]⟩⟩,⟨⟨[100,111,110,101,32,57]⟩⟩,0),(⟨⟨[109,105,115,115,105,110,103]⟩⟩,⟨⟨[110,111,110,101]⟩⟩,0),(⟨⟨[115,101,116,116,108,101,32,53,32,54]⟩⟩,⟨⟨[]⟩⟩,14),(⟨⟨[115,101,116,116,108,101,32,53,32,53]⟩⟩,⟨⟨[100,111,110,101,32,49,48]⟩⟩,0),(⟨⟨[117,110,100,111]⟩⟩,⟨⟨[]⟩⟩,21),(⟨⟨[98,105,108,108,32,111,49]⟩⟩,⟨⟨[51,32,49,54,32,49,52,32,55,48,32,49,50]⟩⟩,0),(⟨⟨[98,97,108,97,110,99,101,32,98]⟩⟩,⟨⟨[45,53,56]⟩⟩,0),(⟨⟨[114,97,116,101,32,97]⟩⟩,⟨⟨[53]⟩⟩,0),(⟨⟨[114,101,115,116,111,114,101,32,120,32,54]⟩⟩,⟨⟨[]⟩⟩,32),(⟨⟨[112,101,114,109,105,116,115]⟩⟩,⟨⟨[112]⟩⟩,0),(⟨⟨[114,101,116,117,114,110,32,112,32,54]⟩⟩,⟨⟨[100,111,110,101,32,49,49]⟩⟩,0),(⟨⟨[114,101,115,116,111,114,101,32,120,32,54]⟩⟩,⟨⟨[100,111,110,101,32,49,50]⟩⟩,0),(⟨⟨[115,101,116,116,108,101,32,56,32,56]⟩⟩,⟨⟨[100,111,110,101,32,49,51]⟩⟩,0),(⟨⟨[115,101,116,116,108,101,100]⟩⟩,⟨⟨[56]⟩⟩,0)]
def Fj:List Ev:=[(1,⟨⟨[115,116,97,116,105,111,110]⟩⟩,[⟨⟨[97]⟩⟩],[0,10],⟨⟨[]⟩⟩),(2,⟨⟨[115,116,97,116,105,111,110]⟩⟩,[⟨⟨[98]⟩⟩],[0,8],⟨⟨[]⟩⟩),(3,⟨⟨[112,114,105,99,101]⟩⟩,[⟨⟨[97]⟩⟩],[0,5],⟨⟨[]⟩⟩),(4,⟨⟨[111,114,100,101,114]⟩⟩,[⟨⟨[111,49]⟩⟩,⟨⟨[97]⟩⟩,⟨⟨[98]⟩⟩],[1,2,5,6],⟨⟨[]⟩⟩),(5,⟨⟨[111,117,116,97,103,101]⟩⟩,[⟨⟨[120]⟩⟩,⟨⟨[98]⟩⟩],[1,5,7,0],⟨⟨[]⟩⟩),(6,⟨⟨[112,101,114,109,105,116]⟩⟩,[⟨⟨[112]⟩⟩,⟨⟨[120]⟩⟩],[5],⟨⟨[]⟩⟩),(7,⟨⟨[109,101,116,101,114]⟩⟩,[⟨⟨[111,49]⟩⟩],[5,2,6,6],⟨⟨[]⟩⟩),(8,⟨⟨[109,101,116,101,114]⟩⟩,[⟨⟨[111,49]⟩⟩],[5,3,6,5],⟨⟨[]⟩⟩),(9,⟨⟨[109,101,116,101,114]⟩⟩,[⟨⟨[111,49]⟩⟩],[5,4,4,3],⟨⟨[]⟩⟩),(10,⟨⟨[115,101,116,116,108,101]⟩⟩,[],[5,5],⟨⟨[]⟩⟩),(11,⟨⟨[114,101,116,117,114,110]⟩⟩,[⟨⟨[112]⟩⟩],[6],⟨⟨[]⟩⟩),(12,⟨⟨[114,101,115,116,111,114,101]⟩⟩,[⟨⟨[120]⟩⟩],[6],⟨⟨[]⟩⟩),(13,⟨⟨[115,101,116,116,108,101]⟩⟩,[],[8,8],⟨⟨[]⟩⟩)]
def K2z:List Ev:=(Jdo Zz Jrc).1.2.1
def K2y:List Reg:=(Jdo Zz Jrc).1.2.2
theorem Jwt:Jdo Zz Jrc=((Fj,K2z,K2y),true):=by kernel_rfl
def K7v:Xu:={T? :=some 212,s:=Jiu,args:=[.val false (.list 147 Kop)],ress:=[Bo],pre:=fun h (l,_)=>[h=Zz,l=Jrc],spec:=fun _ _=>(true,()),post:=fun _ _=>(Fj,K2z,K2y)}
theorem Jtt:Jrc.length≤1000000∧∀x∈Jrc,x.1.size≤1000000:=by
 refine⟨by decide,fun x hx=> ?_⟩
 have:(Jrc.all fun x=>decide (x.1.size≤1000000))=true:=by kernel_rfl
 exact of_decide_eq_true (List.all_eq_true.1 this x hx)
theorem Jzd {f:FuncId} {c:Xu} {p:c.s.T→ATup c.args→List Prop} {sp:c.s.T→ATup c.args→Tup c.ress} {q:c.s.T→ATup c.args→c.s.T} (h1:OkO Tryz.prog f c) (h:∀x y,Un (p x y)→Un (c.pre x y)∧sp x y=c.spec x y∧q x y=c.post x y):OkO Tryz.prog f {c with pre:=p,spec:=sp,post:=q}:=
 ⟨h1.1,fun x y M R B w b T cells vals vs hB hMR hg hw hBb hMb hRb hT ho hv hpre ha=>by
  obtain⟨hp,e1,e2⟩:=h x y hpre
  have H:=h1.2 x y M R B w b T cells vals vs hB hMR hg hw hBb hMb hRb hT ho hv hp ha
  dsimp only
  rw[e1,e2]
  exact H⟩
theorem Kos:OkO Tryz.prog 66 J9i:=Ub mixed Knv.ok (by kernel_rfl) (by kernel_rfl) (U5 (l:=([]:List (Nat×Func))) (by simp)) (fun xx yy=>Xh (Jw1 (xx.1,xx.2.1,xx.2.2) yy.1)) (fun xx yy=>fun _=>na ()) fun T xx yy hT=>by obtain rfl:=hT _ rfl;exact K2q xx.1 xx.2.1 xx.2.2 yy.1
theorem Kov:Ok Tryz.prog 66 (Xu.con K7v):=X0 (Jzd (c:=J9i) Kos fun x y hp=>by
 obtain⟨rfl,e⟩:=hp
 obtain⟨l,_⟩:=y
 have e:l=Jrc:=e
 subst e
 exact⟨⟨Hf,J4n,Jtt.1,Jtt.2⟩,by rw[show J9i.spec Zz (Jrc,())=((Jdo Zz Jrc).2,()) from rfl,Jwt],by rw[show J9i.post Zz (Jrc,())=(Jdo Zz Jrc).1 from rfl,Jwt]⟩)
abbrev K2k:=K8h.add Kov
theorem Jpz:Fj.length=13:=by kernel_rfl
theorem Jnx:∀e∈Fj,Jfj e:=fun e he=>by
 have:(Fj.all fun e=>decide (e.2.2.1.length≤1000000)&&decide (e.2.2.2.1.length≤1000000)&&e.2.2.1.all fun s=>decide (s.size≤1000000))=true:=by kernel_rfl
 have h:=List.all_eq_true.1 this e he
 simp only[Bool.and_eq_true] at h
 exact⟨of_decide_eq_true h.1.1,of_decide_eq_true h.1.2,fun s hs=>of_decide_eq_true (List.all_eq_true.1 h.2 s hs)⟩
theorem J4r:∀e∈Fj,Jb e=0:=fun e he=>by
 have:(Fj.all fun e=>Jb e==0)=true:=by kernel_rfl
 exact eq_of_beq (List.all_eq_true.1 this e he)
theorem Jny (n:Nat):lOk (Fj.take n):=⟨by have:=Jpz;rw[List.length_take];omega,fun e he=>Jnx e (List.mem_of_mem_take he)⟩
def J2t:Con:={args:=[],ress:=[Bo],owns:=[],pre:=fun _=>[],spec:=fun _=>(true,())}
def Z84:=[(32:UInt8),(54:UInt8)]
def Z88:=[(32:UInt8),(56:UInt8)]
def Z95:=[(32:UInt8),(51:UInt8)]
def J3f:=[(32:UInt8),(53:UInt8)]
def Kns:=ByteArray.mk (Array.mk [97])
def Khr:=ByteArray.mk (Array.mk [98])
def K2j:=32::53::Z84
def Kyt:=ByteArray.mk (Array.mk (115::101::116::116::108::101::32::53::J3f))
def Kyb:=ByteArray.mk (Array.mk (114::101::115::116::111::114::101::32::120::Z84))
def Kxq:=Jgg (List.take 6 Fj) Kns 3+Jgg (List.take 6 Fj) Khr 5
def Kvs:=Kxq+Jfz Fj Kns Khr
def Kvk:=Kvs+Jgk Fj 4
def Kvf:=Kvk+(H2 Fj).2
def Kul:=Kvf+avE (List.take 10 Fj) Khr
def Kuc:=Kul+avE Fj Khr
theorem K5k:wpFG Tryz.prog K2k.g (na ()) (fun _=>na ()) (Sx.look ([(65,Tryz.f65)]:List (Nat×Func))) Tryz.f14 J2t ():=by
 refine(by kernel_rfl:((([],[],[])=Zz∧[(ByteArray.mk (Array.mk [115,116,97,116,105,111,110,32,97,32,48,32,49,48]),ByteArray.mk (Array.mk [100,111,110,101,32,49]),0),(ByteArray.mk (Array.mk (115::116::97::116::105::111::110::32::98::32::48::Z88)),ByteArray.mk (Array.mk [100,111,110,101,32,50]),0),(ByteArray.mk (Array.mk (112::114::105::99::101::32::97::32::48::J3f)),ByteArray.mk (Array.mk (100::111::110::101::Z95)),0),(ByteArray.mk (Array.mk (111::114::100::101::114::32::111::49::32::97::32::98::32::49::32::50::K2j)),ByteArray.mk (Array.mk [100,111,110,101,32,52]),0),(ByteArray.mk (Array.mk (111::114::100::101::114::32::111::50::32::98::32::97::32::49::32::50::32::53::Z95)),B0,4),(ByteArray.mk (Array.mk (111::117::116::97::103::101::32::121::32::98::32::49::32::51::32::52::J3f)),B0,24),(ByteArray.mk (Array.mk [111,117,116,97,103,101,32,120,32,98,32,49,32,53,32,55,32,48]),ByteArray.mk (Array.mk (100::111::110::101::J3f)),0),(ByteArray.mk (Array.mk (112::101::114::109::105::116::32::112::32::120::J3f)),ByteArray.mk (Array.mk (100::111::110::101::Z84)),0),(Ua,ByteArray.mk (Array.mk [111,49,32,50,32,111,49,32,51,32,111,49,32,52]),0),(Uf,ByteArray.mk (Array.mk [120]),0),(ByteArray.mk (Array.mk (116::114::105::112::32::111::49::J3f)),B0,23),(ByteArray.mk (Array.mk (109::101::116::101::114::32::111::49::32::53::32::50::32::54::Z84)),ByteArray.mk (Array.mk [100,111,110,101,32,55]),0),(ByteArray.mk (Array.mk (109::101::116::101::114::32::111::49::32::53::32::51::32::54::J3f)),ByteArray.mk (Array.mk (100::111::110::101::Z88)),0),(Kyt,B0,32),(ByteArray.mk (Array.mk (109::101::116::101::114::32::111::49::32::53::32::52::32::52::Z95)),ByteArray.mk (Array.mk [100,111,110,101,32,57]),0),(Ua,Jmm,0),(ByteArray.mk (Array.mk (115::101::116::116::108::101::K2j)),B0,14),(Kyt,ByteArray.mk (Array.mk [100,111,110,101,32,49,48]),0),(J2,B0,21),(ByteArray.mk (Array.mk [98,105,108,108,32,111,49]),ByteArray.mk (Array.mk [51,32,49,54,32,49,52,32,55,48,32,49,50]),0),(ByteArray.mk (Array.mk [98,97,108,97,110,99,101,32,98]),ByteArray.mk (Array.mk [45,53,56]),0),(ByteArray.mk (Array.mk [114,97,116,101,32,97]),ByteArray.mk (Array.mk [53]),0),(Kyb,B0,32),(Ue,ByteArray.mk (Array.mk [112]),0),(ByteArray.mk (Array.mk (114::101::116::117::114::110::32::112::Z84)),ByteArray.mk (Array.mk [100,111,110,101,32,49,49]),0),(Kyb,ByteArray.mk (Array.mk [100,111,110,101,32,49,50]),0),(ByteArray.mk (Array.mk (115::101::116::116::108::101::32::56::Z88)),ByteArray.mk (Array.mk [100,111,110,101,32,49,51]),0),(Ud,ByteArray.mk (Array.mk [56]),0)]=Jrc)∧Br false (Sf true (false=true)) ((13≤1000∧∀(e:Ev),e∈Fj→Jfj e)∧Br false (Sf true (false=true)) (T2 (((0:Int)≤0∧(0:Int)≤6∧(6:Int)≤13)∧lOk (List.take 6 Fj)) (lOk Fj∧T2 (lOk Fj) ((((0:Int)≤0∧(0:Int)≤10∧(10:Int)≤13)∧lOk (List.take 10 Fj))∧T2 (lOk Fj) ((13≤1000∧∀(e:Ev),e∈Fj→L4 e)∧(325:Int)≤9223372036854775807∧(Iw Kxq∧Iw Kvs∧Iw Kvk∧Iw Kvf∧Iw Kul∧Iw Kuc∧Iw (Kuc+Zd Fj Kns)∧(true=true→2≤1000000))∧Tw (true=true)))))))=_).mp ?_
 delta Z84 Z88 Z95 J3f Kns Khr K2j Jmm Kyt Kyb Kxq Kvs Kvk Kvf Kul Kuc Br Iw T2 Tw Sf B0 Ua Uf Ue Ud J2
 have ok:lOk Fj:=⟨by rw[Jpz];decide,Jnx⟩
 have z1:Jgg (List.take 6 Fj) {data:={toList:=[97]}} 3=0:=by kernel_rfl
 have z2:Jgg (List.take 6 Fj) {data:={toList:=[98]}} 5=0:=by kernel_rfl
 have z3:Jfz Fj {data:={toList:=[97]}} {data:={toList:=[98]}}=0:=by kernel_rfl
 have z4:Jgk Fj 4=0:=by kernel_rfl
 have z5:(H2 Fj).2=0:=by kernel_rfl
 have z6:avE (List.take 10 Fj) {data:={toList:=[98]}}=0:=by kernel_rfl
 have z7:avE Fj {data:={toList:=[98]}}=0:=by kernel_rfl
 have z8:Zd Fj {data:={toList:=[97]}}=0:=by kernel_rfl
 rw[z1,z2,z3,z4,z5,z6,z7,z8]
 exact⟨⟨rfl,rfl⟩,fun h=>(nomatch h),fun _=>⟨⟨by decide,Jnx⟩,fun h=>(nomatch h),fun _=>⟨⟨by omega,Jny 6⟩,⟨by omega,Jny 6⟩,ok,ok,ok,⟨by omega,Jny 10⟩,ok,ok,⟨by decide,fun e he=>J5m (J4r e he)⟩,by decide,⟨by decide,by decide,by decide,by decide,by decide,by decide,by decide,fun _=>by decide⟩,rfl,rfl⟩⟩⟩
theorem K69:Ok Tryz.prog 14 J2t:=Jen mixed K2k.ok (by kernel_rfl) (by kernel_rfl) (U5 (l:=([(65,Tryz.f65)]:List (Nat×Func))) (List.forall_mem_cons.2 ⟨by kernel_rfl,by simp⟩)) (fun xx=>na ()) (fun xx=>fun _=>na ()) fun xx=>K5k
abbrev K8g:=K2k.add K69
def eqL {α:Type} (p:α→α→Bool):List α→List α→Bool
 |[],[]=>true
 |x::l,y::r=>bif p x y then eqL p l r else false
 |_,_=>false
theorem J2l {α:Type} {p:α→α→Bool}:∀{l r:List α},l.length≠r.length→eqL p l r=false
 |[],[],h=>absurd rfl h
 |[],_::_,_=>rfl
 |_::_,[],_=>rfl
 |x::l,y::r,h=>by
  unfold eqL
  rw[J2l (fun e=>h (by rw[List.length_cons,List.length_cons,e]))]
  cases p x y<;>rfl
theorem Jpy {α:Type} {p:α→α→Bool} (h:∀x,p x x=true):∀l:List α,eqL p l l=true
 |[]=>rfl
 |x::l=>by unfold eqL;rw[h x,cond_true];exact Jpy h l
abbrev J5q (T:TypeId) (s:Sch) (p:s.T→s.T→Bool) (xs ys:List s.T):Ann:={X:=Nat,σ:=fun k=>⟨2,[(0, .one (.sl 0)),(1, .one (.sl 1)),(5, .one (.int .i64 k))],[(0, .imm T s xs),(1, .imm T s ys)]⟩,inv:=fun k=>k≤xs.length∧xs.length=ys.length∧eqL p (xs.drop k) (ys.drop k)=eqL p xs ys,mu:=fun k=>xs.length-k}
def Ksm (T:TypeId) (s:Sch) (p:s.T→s.T→Bool):Con:={args:=[.val false (.list T s), .val false (.list T s)],ress:=[Bo],owns:=[],pre:=fun(xs,_)=>[xs.length≤1000000],spec:=fun(xs,ys,_)=>(eqL p xs ys,())}
abbrev K8f:=K8g
abbrev K8e:=K8f
abbrev K3k:=K8e
def Jhi (e:Ev):Bool:=bif bif bif decide (40<(e.2.1.size:Int)) then true else decide (6<(e.2.2.1.length:Int)) then true else decide (8<(e.2.2.2.1.length:Int)) then true else decide (200<(e.2.2.2.2.size:Int))
def Xk (e:Ev):Bool:=bif Jhi e then false else e.2.2.1.all fun s=> !decide (40<(s.size:Int))
def He (l:List Ev) (n:Int):Bool:=bif decide (n<(l.length:Int)) then false else l.all Xk
def Kck:Con:={args:=[.val false (.list 67 sEv),aI],ress:=[Bo],owns:=[],pre:=fun(_,n,_)=>[n≤1000000],spec:=fun(l,n,_)=>(He l n,())}
abbrev J0m (l:List Ev) (n:Int):Nat→Option Ann:=fun id=>if id=0 then some {X:=Nat,σ:=fun k=>⟨1,[(0, .one (.sl 0)),(5, .one (.int .i64 k))],[(0, .imm 67 sEv l)]⟩,inv:=fun k=>k≤l.length∧(l.drop k).all Xk=l.all Xk,mu:=fun k=>l.length-k}
 else if id=2 then some {X:=Nat×Nat,σ:=fun(k,j)=>⟨1,[(0, .one (.sl 0)),(5, .one (.int .i64 k)),(6, .one (.int .i64 j))],[(0, .imm 67 sEv l)]⟩,inv:=fun(k,j)=>k<l.length∧j≤(l.getD k ev0).2.2.1.length∧(l.getD k ev0).2.2.1.length≤6∧(bif (((l.getD k ev0).2.2.1.drop j).all fun s=> !decide (40<(s.size:Int))) then(l.drop (k+1)).all Xk else false)=l.all Xk,mu:=fun(k,j)=>(l.getD k ev0).2.2.1.length-j,rel:=some fun x0 x=>x0.1=x.1} else none
def Khj (a:List Ev) (b:Nat×Nat):=List.length (List.getD a b.1 ev0).2.2.1
def Kmt (a:Nat) (b:List Ev):=a≤List.length b∧List.all (List.drop a b) Xk=List.all b Xk
def K1u (a:List Ev) (b:Nat×Nat):=Ln (List.getD a b.1 Jae).2.2.1
def K06 (a:List Ev) (b:Nat):=decide (40<Nc (ByteArray.size (J6t a b).1))
def Kv4 (a:List Ev) (b:Nat):=bif K06 a b then true else decide (6<Ln (J6q a b).1)
def Kuv (a:List Ev) (b:Nat):=bif Kv4 a b then true else decide (8<Ln (J6o a b).1)
def Kut (a:Nat×Nat) (b:List Ev):=a.1<List.length b∧a.2≤Khj b a∧Khj b a≤6∧(bif List.all (List.drop a.2 (List.getD b a.1 ev0).2.2.1) fun(s:ByteArray)=> !decide (40<Nc (ByteArray.size s)) then List.all (List.drop (a.1+1) b) Xk else false)=List.all b Xk
def Kuo (a:Nat×Nat) (b:List Ev) (c:Nat×Nat):=Kut a b∧c.1=a.1
theorem K7a:Ok Tryz.prog 13 Kck:=okW K3k Tryz.f13 (fun xx=>J0m xx.1 xx.2.1) fun xx=>by
 obtain⟨(l:List Ev),(n:Int),_⟩:=xx
 refine(by kernel_rfl:(n≤1000000→Br (decide (n<Ln l)) (false=He l n) (∃(x:Nat),(0=Nc x∧l=l)∧Kmt x l∧∀(x:Nat),Kmt x l→Br (decide (Nc x<Ln l)) (T2 (Z7 x l) (T2 (K06 l x=false→Z7 x l) (T2 (Kv4 l x=false→Z7 x l) (Tw (Kuv l x=false→Z7 x l))))∧Br (bif Kuv l x then true else decide (200<Nc (ByteArray.size (J6o l x).2))) (false=He l n) (∃(x0:Nat×Nat),(Nc x=Nc x0.1∧0=Nc x0.2∧l=l)∧(Kut x0 l∧x0.1=x0.1)∧∀(x_1:Nat×Nat),Kuo x_1 l x0→Tw (Bd (Nc x_1.1) (Ln l))∧Br (decide (Nc x_1.2<K1u l x_1)) (T2 (Bd (Nc x_1.1) (Ln l)) (Tw (Bd (Nc x_1.2) (K1u l x_1)))∧Br (decide (40<Nc (ByteArray.size (List.getD (List.getD l x_1.1 Jae).2.2.1 x_1.2 B0)))) (false=He l n) (Iw (Nc x_1.2+1)∧∃(y:Nat×Nat),(Nc x_1.1=Nc y.1∧Nc x_1.2+1=Nc y.2∧l=l)∧Kuo y l x0∧Khj l y-y.2<Khj l x_1-x_1.2)) (Iw (Nc x_1.1+1)∧∃(y:Nat),(Nc x_1.1+1=Nc y∧l=l)∧Kmt y l∧List.length l-y<List.length l-x))) (true=He l n)))=_).mp ?_
 delta Z7 Khj Jae J6t J6q J6o Kmt K1u K06 Kv4 Kuv Kut Kuo Br Iw Bd T2 Tw Ln Nc B0
 intro hn
 refine⟨fun h=> ?_,fun h=>⟨(0:Nat),by(repeat' first|exact rfl|exact⟨⟩|apply And.intro|omega|dsimp only;omega),⟨Nat.zero_le _,rfl⟩,fun(k:Nat) hk=>⟨fun h1=> ?_,fun h1=> ?_⟩⟩⟩
 ·unfold He;rw[h];rfl
 ·have hsh:He l n=l.all Xk:=by unfold He;rw[h];rfl
  obtain⟨k1,k2⟩:=hk
  have hlt:k<l.length:=by simpa using h1
  have hn2:(l.length:Int)≤n:=by have:=of_decide_eq_false h;omega
  rw[Jt (d:=ev0) hlt,List.all_cons] at k2
  have hz:((0:Int),({data:={toList:=[]}}:ByteArray),([]:List ByteArray),([]:List Int),({data:={toList:=[]}}:ByteArray))=ev0:=rfl
  have hx:((0:Int)≤(k:Int)∧(k:Int)<(l.length:Int))=True:=eq_true (by omega)
  simp only[hz,hx,implies_true,true_and,and_true]
  refine⟨fun h2=> ?_,fun h2=> ?_⟩
  ·have h2:Xk (l.getD k ev0)=false:=by unfold Xk;rw[show Jhi (l.getD k ev0)=true from h2];rfl
   rw[h2] at k2
   rw[hsh,←k2];rfl
  ·have h2:Jhi (l.getD k ev0)=false:=h2
   have h6:(l.getD k ev0).2.2.1.length≤6:=by
    unfold Jhi at h2
    cases hc:decide (6<((l.getD k ev0).2.2.1.length:Int)) with
    |false=>have:=of_decide_eq_false hc;omega
    |true=>rw[hc] at h2;simp at h2
   have hand:∀u v:Bool,(bif u then v else false)=(u&&v):=by decide
   have hsb:Xk (l.getD k ev0)=(l.getD k ev0).2.2.1.all fun s=> !decide (40<(s.size:Int)):=by unfold Xk;rw[h2];rfl
   refine⟨(k,(0:Nat)),by(repeat' first|exact rfl|exact⟨⟩|apply And.intro|omega|dsimp only;omega),⟨hlt,Nat.zero_le _,h6,by rw[hand];rw[hsb] at k2;exact k2⟩,fun(x:Nat×Nat) hx=> ?_⟩
   obtain⟨k',j⟩:=x
   obtain⟨⟨j1,j2,j3,j4⟩,j5⟩:=hx
   have j5:k=k':=j5
   subst j5
   dsimp only at j1 j2 j3 j4⊢
   refine⟨by omega,fun h3=> ?_,fun h3=> ?_⟩
   ·have hj:j<(l.getD k ev0).2.2.1.length:=Int.ofNat_lt.1 (of_decide_eq_true h3)
    rw[Jt (d:=Ja) hj,List.all_cons] at j4
    refine⟨⟨by omega,by omega, ?_, ?_⟩,fun h4=> ?_,fun h4=>⟨?_,(k,j+1),⟨rfl,by simp⟩,⟨⟨hlt,by dsimp only;omega,j3, ?_⟩,rfl⟩, ?_⟩⟩
    ·exact⟨by omega,Int.ofNat_lt.2 hj⟩
    ·exact⟨by omega,Int.ofNat_lt.2 hj⟩
    ·have h4:decide (40<(((l.getD k ev0).2.2.1.getD j Ja).size:Int))=true:=h4
     rw[h4] at j4
     rw[hsh,←j4];rfl
    ·omega
    ·have h4:decide (40<(((l.getD k ev0).2.2.1.getD j Ja).size:Int))=false:=h4
     rw[h4] at j4
     exact j4
    ·dsimp only;omega
   ·have hj:¬j<(l.getD k ev0).2.2.1.length:=fun q=>of_decide_eq_false h3 (Int.ofNat_lt.2 q)
    rw[List.drop_eq_nil_of_le (by omega)] at j4
    exact⟨by omega,(k+1:Nat),by simp,⟨by omega,j4⟩,by omega⟩
 ·have hsh:He l n=l.all Xk:=by unfold He;rw[h];rfl
  obtain⟨k1,k2⟩:=hk
  have hlt:¬k<l.length:=by simpa using h1
  rw[List.drop_eq_nil_of_le (by omega)] at k2
  rw[hsh,←k2];rfl
abbrev K8d:=K3k.add K7a
theorem Jzt {k:ByteArray} (h:Yr k=false):(Zo k).2.2=false:=by
 have hne:∀w:ByteArray,Yr w=true→(k.toList==w.toList)=false:=fun w hw=>by
  cases hc:k.toList==w.toList with
  |false=>rfl
  |true=>
   have:=Lt hc
   subst this
   rw[hw] at h;cases h
 unfold Zo
 rw[hne Jy (by kernel_rfl),hne K9 (by kernel_rfl),hne Kl (by kernel_rfl),hne K3 (by kernel_rfl),hne Vn (by kernel_rfl),hne Jz (by kernel_rfl),hne Ju (by kernel_rfl),hne Kd (by kernel_rfl),hne Kc (by kernel_rfl),hne Jh (by kernel_rfl),hne J2 (by kernel_rfl)]
 rfl
theorem Jnu {k:ByteArray} (h:Yr k=true):(Zo k).2.2=true∧(Zo k).1.size=(Ji k).1.length∧(Zo k).2.1=(Ji k).2.1:=by
 rcases Vc h with h|h|h|h|h|h|h|h|h|h|h<;>subst h
 all_goals exact⟨by kernel_rfl,by kernel_rfl,by kernel_rfl⟩
def J9 (k:ByteArray):ByteArray×Int×Bool:=Zo k
def Kc9:Con:={args:=[aS],ress:=[(true,Kbt)],owns:=[],pre:=fun _=>[],spec:=fun(k,_)=>(J9 k,())}
theorem Kb6:Ok Tryz.prog 110 Kc9:=Kb7
abbrev K3j:=K8d.add Kb6
def ckN (ns:List ByteArray):Int:=Jg (ns.map fun s=>bif Yi s then 0 else 8)
def ckV (vs:List Int):Int:=Jg (vs.map fun n=>Ki n 0 999999999)
theorem Jz0 (t:ByteArray):(t.toList==Ja.toList)= !decide (0<t.size):=by
 cases h:t.toList==Ja.toList with
 |true=>have:=Lt h;subst this;rfl
 | false =>
  have:0<t.size:=Nat.pos_of_ne_zero fun h0=>by
   have e:t.data.toList=[]:=List.eq_nil_of_length_eq_zero h0
   rw[Lib.toList_data,Lib.toList_data,e] at h
   exact nomatch (show true=false from h)
  rw[decide_eq_true this];rfl
theorem Yk (x:Int) (l:List Int):Jg (x::l)=if x=0 then Jg l else x:=rfl
def Kdo:Con:={args:=[aEv],ress:=[I],owns:=[],pre:=fun(e,_)=>[e.2.2.1.length≤1000000,e.2.2.2.1.length≤1000000,∀s∈e.2.2.1,s.size≤1000000],spec:=fun(e,_)=>(Jb e,())}
abbrev Kth (n:Int) (k:ByteArray) (ns:List ByteArray) (vs:List Int) (t:ByteArray):Nat→Option Ann:=fun id=>if id=0 then some {X:=Nat,σ:=fun i=>⟨4,[(1, .one (.ptr 2 0)),(3, .one (.ptr 3 0)),(4, .one (.int .i64 i))],[(2, .box 67 [.int .i64 n, .str k, .sl 0, .sl 1, .str t]),(3, .box 208 [.str (J9 k).1, .int .i64 (J9 k).2.1, .bool (J9 k).2.2]),(0, .imm 9 .str ns),(1, .imm 3 sI vs)]⟩,inv:=fun i=>i≤ns.length∧ckN (ns.drop i)=ckN ns,mu:=fun i=>ns.length-i}
 else if id=2 then some {X:=Nat,σ:=fun i=>⟨4,[(1, .one (.ptr 2 0)),(3, .one (.ptr 3 0)),(5, .one (.int .i64 i))],[(2, .box 67 [.int .i64 n, .str k, .sl 0, .sl 1, .str t]),(3, .box 208 [.str (J9 k).1, .int .i64 (J9 k).2.1, .bool (J9 k).2.2]),(0, .imm 9 .str ns),(1, .imm 3 sI vs)]⟩,inv:=fun i=>i≤vs.length∧ckV (vs.drop i)=ckV vs,mu:=fun i=>vs.length-i}
 else none
def Z8 (a:Bt):=Nc (ByteArray.size (J9 a).1)
def Kng (a:Nat) (b:Li):=a≤List.length b∧ckV (List.drop a b)=ckV b
def Km5 (a:Nat) (b:Ls):=a≤List.length b∧ckN (List.drop a b)=ckN b
def Kx3 (a:Int) (b c:Bt) (d:Ls) (e:Li):=Si a (Sf b (Sf c (Sf (J9 b).1 (Si (J9 b).2.1 (Sf (J9 b).2.2 (Sf d (e=e)))))))
def Kxe (a:Nat) (b:Int) (c d:Bt) (e:Ls) (f:Li):=0=Nc a∧Kx3 b c d e f
def Kwx (a b:Nat) (c:Int) (d e:Bt) (f:Ls) (g:Li):=V9 a b∧Kx3 c d e f g
theorem K6w:Ok Tryz.prog 36 Kdo:=okW K3j Tryz.f36 (fun xx=>Kth xx.1.1 xx.1.2.1 xx.1.2.2.1 xx.1.2.2.2.1 xx.1.2.2.2.2) fun xx=>by
 obtain⟨⟨(n:Int),(k:ByteArray),(ns:List ByteArray),(vs:List Int),(t:ByteArray)⟩,_⟩:=xx
 refine(by kernel_rfl:(Jbc ns→Z54 vs→Jhs ns→Br (Xj n 1 1000) (3=Jb (n,k,ns,vs,t)) (Br (!(J9 k).2.2) (13=Jb (n,k,ns,vs,t)) (Br (bif Ln ns !=Z8 k then true else Ln vs !=(J9 k).2.1) (2=Jb (n,k,ns,vs,t)) (∃(x:Nat),Kxe x n k t ns vs∧Km5 x ns∧∀(x:Nat),Km5 x ns→Br (decide (Nc x<Z8 k)) (T2 (Bd (Nc x) (Ln ns)) (ByteArray.size (List.getD ns x B0)≤1000000)∧Br (!Yi (List.getD ns x B0)) (8=Jb (n,k,ns,vs,t)) (Z14 x∧∃(y:Nat),Kwx x y n k t ns vs∧Km5 y ns∧List.length ns-y<List.length ns-x)) (∃(x:Nat),Kxe x n k t ns vs∧Kng x vs∧∀(x:Nat),Kng x vs→Br (decide (Nc x<(J9 k).2.1)) (Z71 x vs∧Br (Xj (Z19 vs x) 0 999999999) (3=Jb (n,k,ns,vs,t)) (Z14 x∧∃(y:Nat),Kwx x y n k t ns vs∧Kng y vs∧J08 vs y x)) (Br (!Lb t B0) (1=Jb (n,k,ns,vs,t)) (0=Jb (n,k,ns,vs,t))))))))=_).mp ?_
 delta Z8 Z14 Z19 Z54 Z71 V9 Jbc J08 Kng Jgu Km5 Jhs Kx3 Kxe Kwx Br Iw Bd T2 Tw Sf Si Ln Nc B0 Lb
 intro h1 h2 h3
 have hE1:Ki n 1 1000=bif Xj n 1 1000 then 3 else 0:=rfl
 have hQ:J9 k=Zo k:=rfl
 refine⟨fun h=> ?_,fun h=>⟨fun h4=> ?_,fun h4=> ?_⟩⟩
 ·have e:Ki n 1 1000=3:=by rw[hE1,h];rfl
  unfold Jb
  rw[if_pos (by dsimp only;rw[e];decide),e]
 ·have e:Ki n 1 1000=0:=by rw[hE1,h];rfl
  have hk:Yr k=false:=by
   cases hk:Yr k with
   |false=>rfl
   |true=>
    have:=(Jnu hk).1
    have h4:(!(Zo k).2.2)=true:=h4
    rw[this] at h4;cases h4
  unfold Jb
  rw[if_neg (by dsimp only;rw[e];decide)]
  dsimp only
  rw[hk];rfl
 have e:Ki n 1 1000=0:=by rw[hE1,h];rfl
 have hk:Yr k=true:=by
  cases hk:Yr k with
  |true=>rfl
  |false=>
   have:=Jzt hk
   have h4:(!(Zo k).2.2)=false:=h4
   rw[this] at h4;cases h4
 obtain⟨f1,f2,f3⟩:=Jnu hk
 rw[←hQ] at f1 f2 f3
 have hc:Jb (n,k,ns,vs,t)=if ns.length=(Ji k).1.length∧(vs.length:Int)=(Ji k).2.1 then Jg [ckN ns,ckV vs,bif decide (0<t.size) then 1 else 0] else 2:=by
  unfold Jb
  rw[if_neg (by dsimp only;rw[e];decide)]
  dsimp only
  rw[hk,cond_true];rfl
 refine⟨fun h5=> ?_,fun h5=> ?_⟩
 ·rw[hc,if_neg fun q=> ?_]
  have a1:((ns.length:Int) !=((J9 k).1.size:Int))=false:=bne_eq_false_iff_eq.2 (by rw[f2];exact congrArg _ q.1)
  have a2:((vs.length:Int) !=(J9 k).2.1)=false:=bne_eq_false_iff_eq.2 (by rw[f3];exact q.2)
  have h5:(bif (ns.length:Int) !=((J9 k).1.size:Int) then true else(vs.length:Int) !=(J9 k).2.1)=true:=h5
  rw[a1,a2] at h5;cases h5
 have h5:(bif (ns.length:Int) !=((J9 k).1.size:Int) then true else(vs.length:Int) !=(J9 k).2.1)=false:=h5
 have a:=bn1 h5
 have a1:(ns.length:Int)=((J9 k).1.size:Int):=bne_eq_false_iff_eq.1 a.1
 have a2:(vs.length:Int)=(J9 k).2.1:=bne_eq_false_iff_eq.1 a.2
 rw[if_pos ⟨by rw[f2] at a1;omega,by rw[a2,f3]⟩] at hc
 refine⟨(0:Nat),by(repeat' first|exact rfl|exact⟨⟩|apply And.intro|omega|dsimp only;omega),⟨Nat.zero_le _,rfl⟩,fun(i:Nat) hi=>⟨fun h6=> ?_,fun h6=> ?_⟩⟩
 ·have h6:(i:Int)<((J9 k).1.size:Int):=of_decide_eq_true h6
  have hlt:i<ns.length:=by omega
  have hN:ckN (ns.drop i)=if(bif Yi (ns.getD i Ja) then(0:Int) else 8)=0 then ckN (ns.drop (i+1)) else bif Yi (ns.getD i Ja) then 0 else 8:=by
   rw[Jt (d:=Ja) hlt]
   exact Yk _ _
  refine⟨⟨by omega,by omega,h3 _ (Jc hlt)⟩,fun h7=> ?_,fun h7=>⟨by omega,(i+1:Nat),by(repeat' first|exact rfl|exact⟨⟩|apply And.intro|omega|dsimp only;omega),⟨by omega, ?_⟩,by omega⟩⟩
  ·have h7:(!Yi (ns.getD i Ja))=true:=h7
   have h7:Yi (ns.getD i Ja)=false:=by simpa using h7
   rw[h7] at hN
   have:ckN ns=8:=by rw[←hi.2,hN];rfl
   rw[hc,Yk,this];rfl
  ·have h7:(!Yi (ns.getD i Ja))=false:=h7
   have h7:Yi (ns.getD i Ja)=true:=by simpa using h7
   rw[h7] at hN
   rw[←hi.2,hN];rfl
 ·have h6:¬(i:Int)<((J9 k).1.size:Int):=of_decide_eq_false h6
  have hN:ckN ns=0:=by rw[←hi.2,List.drop_eq_nil_of_le (by omega)];rfl
  refine⟨(0:Nat),by(repeat' first|exact rfl|exact⟨⟩|apply And.intro|omega|dsimp only;omega),⟨Nat.zero_le _,rfl⟩,fun(j:Nat) hj=>⟨fun h8=> ?_,fun h8=> ?_⟩⟩
  ·have h8:(j:Int)<(J9 k).2.1:=of_decide_eq_true h8
   have hlt:j<vs.length:=by omega
   have hV:ckV (vs.drop j)=if Ki (vs.getD j 0) 0 999999999=0 then ckV (vs.drop (j+1)) else Ki (vs.getD j 0) 0 999999999:=by
    rw[Jt (d:=(0:Int)) hlt]
    exact Yk _ _
   have hW:Ki (vs.getD j 0) 0 999999999=bif Xj (vs.getD j 0) 0 999999999 then 3 else 0:=rfl
   refine⟨by omega,fun h7=> ?_,fun h7=>⟨by omega,(j+1:Nat),by(repeat' first|exact rfl|exact⟨⟩|apply And.intro|omega|dsimp only;omega),⟨by omega, ?_⟩,by omega⟩⟩
   ·rw[hW,h7] at hV
    have:ckV vs=3:=by rw[←hj.2,hV];rfl
    rw[hc,Yk,hN,if_pos rfl,Yk,this];rfl
   ·rw[hW,h7] at hV
    rw[←hj.2,hV];rfl
  ·have h8:¬(j:Int)<(J9 k).2.1:=of_decide_eq_false h8
   have hV:ckV vs=0:=by rw[←hj.2,List.drop_eq_nil_of_le (by omega)];rfl
   have hz:(t.toList==({data:={toList:=[]}}:ByteArray).toList)= !decide (0<t.size):=Jz0 t
   rw[hz,hc,Yk,hN,if_pos rfl,Yk,hV,if_pos rfl]
   cases decide (0<t.size)
   ·exact⟨fun h=>(nomatch h),fun _=>rfl⟩
   ·exact⟨fun _=>rfl,fun h=>(nomatch h)⟩
abbrev K8c:=K3j.add K6w
abbrev K8b:=K8c
abbrev K8a:=K8b
abbrev K79:=K8a
abbrev K78:=K79
abbrev K77:=K78
abbrev K3i:=K77
def Jii (c:Int):Int:=bif c==115 then 0 else bif c==111 then 1 else bif c==120 then 2 else 3
def Jk3 (b:UInt8):Int×Bool:=bif decide ((97:Int)≤(b.toNat:Int)) then(Jii b.toNat,true) else(Jii (b.toNat+97-65),false)
theorem J2w (r:Reg) (c:Int) (s:ByteArray):Ve r (Jii c) s=decide (0≤atS r c s):=by
 unfold atS Jii
 cases h1:c==115 with
 |true=>rfl
 | false =>
  cases h2:c==111 with
  |true=>rfl
  |false=>
   cases h3:c==120 with
   |true=>rfl
   |false=>rfl
theorem Jr1 {k:ByteArray} (h:Yr k=true):(Ji k).1=(J9 k).1.data.toList.map Jk3∧((Ji k).1.drop 1).all (fun x=>x.2)=true:=by
 rcases Vc h with h|h|h|h|h|h|h|h|h|h|h<;>subst h
 all_goals exact⟨by kernel_rfl,by kernel_rfl⟩
theorem Jd0 {r:Reg} {ns:List ByteArray}:∀{l:List (Int×Bool)} {i:Nat},l.all (fun x=>x.2)=true→Ku r ns l i=false
 |[],_,_=>rfl
 |(w,b)::l,i,h=>by
  rw[List.all_cons,Bool.and_eq_true] at h
  have hb:b=true:=h.1
  subst hb
  unfold Ku
  exact Jd0 h.2
def Jw (r:Reg) (k:ByteArray) (ns:List ByteArray):Int:=bif Kj r ns (Ji k).1 0 then 10 else bif Ku r ns (Ji k).1 0 then 9 else 0
def Kct:Con:={args:=[Yp,aEv],ress:=[I],owns:=[],pre:=fun(r,e,_)=>[Jj r,Yr e.2.1=true,e.2.2.1.length=(Ji e.2.1).1.length],spec:=fun(r,e,_)=>(Jw r e.2.1 e.2.2.1,())}
abbrev Kd9 (tk st:Int) (S:List Sta) (O:List Ord) (M:List Met) (X:List Out) (Q:List Per) (n:Int) (k:ByteArray) (ns:List ByteArray) (vs:List Int) (tx:ByteArray):Ann:={X:=Nat,σ:=fun i=>⟨9,[(2, .one (.ptr 7 0)),(3, .one (.ptr 8 0)),(5, .one (.str (J9 k).1)),(6, .one (.int .i64 i))],[(0, .imm 114 L5 S),(1, .imm 119 Zx O),(2, .imm 121 Dd M),(3, .imm 123 Xp X),(4, .imm 125 X7 Q),(5, .imm 9 .str ns),(6, .imm 3 sI vs),(7, .box 37 [.int .i64 tk, .int .i64 st, .sl 0, .sl 1, .sl 2, .sl 3, .sl 4]),(8, .box 67 [.int .i64 n, .str k, .sl 5, .sl 6, .str tx])]⟩,inv:=fun i=>i≤(J9 k).1.size∧Kj (tk,st,S,O,M,X,Q) ns ((Ji k).1.drop i) i=Kj (tk,st,S,O,M,X,Q) ns (Ji k).1 0,mu:=fun i=>(J9 k).1.size-i}
def K19 (a:Bt):=Nc (UInt8.toNat (List.getD (J9 a).1.data.toList 0 0))
def K1o (a:Bt) (b:Nat):=decide (97≤Nc (UInt8.toNat (List.getD (J9 a).1.data.toList b 0)))
def Klr (a:Bt) (b:Nat):=K1o a b=true
def Kxw (a:Bt):=bif decide (0<Z8 a) then decide (K19 a<97) else false
def Kjq (a:Bt):=Kxw a=true
def Kjo (a:Nat) (b:Bt) (c d:Int) (e:List Sta) (f:List Ord) (g:List Met) (h:List Out) (i:List Per) (j:Ls):=a≤ByteArray.size (J9 b).1∧Kj (Z61 c d e f g h i) j (List.drop a (Ji b).1) a=Kj (Z61 c d e f g h i) j (Ji b).1 0
theorem Kpm:Ok Tryz.prog 224 Kct:=okW K3i Tryz.f224 (fun xx=>Xh (Kd9 xx.1.1 xx.1.2.1 xx.1.2.2.1 xx.1.2.2.2.1 xx.1.2.2.2.2.1 xx.1.2.2.2.2.2.1 xx.1.2.2.2.2.2.2 xx.2.1.1 xx.2.1.2.1 xx.2.1.2.2.1 xx.2.1.2.2.2.1 xx.2.1.2.2.2.2)) fun xx=>by
 obtain⟨⟨(tk:Int),(st:Int),(S:List Sta),(O:List Ord),(M:List Met),(X:List Out),(Q:List Per)⟩,⟨(n:Int),(k:ByteArray),(ns:List ByteArray),(vs:List Int),(tx:ByteArray)⟩,_⟩:=xx
 refine(by kernel_rfl:(Jr tk st S O M X Q→Yr k=true→List.length ns=List.length (Ji k).1→∃(x:Nat),Sf (J9 k).1 (0=Nc x∧Sf S (Sf O (Sf M (Sf X (Sf Q (Sf ns (Sf vs (Si tk (Si st (Si n (Sf k (tx=tx))))))))))))∧Kjo x k tk st S O M X Q ns∧∀(x:Nat),Kjo x k tk st S O M X Q ns→Br (decide (Nc x<Z8 k)) ((Bd (Nc x) (Z8 k)∧(Klr k x→Bd (Nc x) (Z8 k))∧T2 (Klr k x→Bd (Nc x) (Ln ns)) (Klr k x→Jr tk st S O M X Q))∧Br (bif K1o k x then decide (atS (Z61 tk st S O M X Q) (Nc (UInt8.toNat (List.getD (J9 k).1.data.toList x 0))) (List.getD ns x B0)<0) else false) (10=Jw (Z61 tk st S O M X Q) k ns) (Z14 x∧∃(y:Nat),Sf (J9 k).1 (V9 x y∧Sf S (Sf O (Sf M (Sf X (Sf Q (Sf ns (Sf vs (Si tk (Si st (Si n (Sf k (tx=tx))))))))))))∧Kjo y k tk st S O M X Q ns∧ByteArray.size (J9 k).1-y<ByteArray.size (J9 k).1-x)) (((decide (0<Z8 k)=true→Bd 0 (Z8 k))∧(Kjq k→Bd 0 (Z8 k))∧T2 (Kjq k→Z91 ns) (Kjq k→Jr tk st S O M X Q))∧Br (bif Kxw k then decide (0≤atS (Z61 tk st S O M X Q) (IntKind.wrap IntKind.u8 (IntKind.wrap IntKind.u8 (K19 k+97)-65)) (Z93 ns)) else false) (9=Jw (Z61 tk st S O M X Q) k ns) (0=Jw (Z61 tk st S O M X Q) k ns)))=_).mp ?_
 delta Z8 Z14 Z61 Z91 Z93 V9 Jr K19 K1o Klr Kxw Kjq Kjo Br Iw Bd T2 Sf Si Ln Nc B0
 intro hr hk hn
 obtain⟨f1,f2,f3⟩:=Jnu hk
 have f2:(J9 k).1.size=(Ji k).1.length:=f2
 obtain⟨fr,fk⟩:=Jr1 hk
 have hB:=Jjf k
 have hfl:(J9 k).1.data.toList.length=(J9 k).1.size:=rfl
 have hb0:∀i,i<(J9 k).1.size→(Ji k).1.getD i (0,false)=Jk3 ((J9 k).1.data.toList.getD i 0):=fun i hi=>by
  rw[fr,List.getD_eq_getElem?_getD,List.getElem?_map,List.getD_eq_getElem?_getD]
  rw[List.getElem?_eq_getElem (by omega)];rfl
 refine⟨(0:Nat),by(repeat' first|exact rfl|exact⟨⟩|apply And.intro|omega|dsimp only;omega),⟨Nat.zero_le _,rfl⟩,fun(i:Nat) hi=>⟨fun h1=> ?_,fun h1=> ?_⟩⟩
 ·have hlt:i<(J9 k).1.size:=by simpa using h1
  have h0:=hi.2
  rw[Jt (d:=((0:Int),false)) (by omega),hb0 i hlt] at h0
  have hu:Kj (tk,st,S,O,M,X,Q) ns (Jk3 ((J9 k).1.data.toList.getD i 0)::(Ji k).1.drop (i+1)) i=bif (bif decide (97≤(((J9 k).1.data.toList.getD i 0).toNat:Int)) then decide (atS (tk,st,S,O,M,X,Q) (((J9 k).1.data.toList.getD i 0).toNat:Int) (ns.getD i Ja)<0) else false) then true else Kj (tk,st,S,O,M,X,Q) ns ((Ji k).1.drop (i+1)) (i+1):=by
   unfold Jk3
   cases hc:decide ((97:Int)≤(((J9 k).1.data.toList.getD i 0).toNat:Int)) with
   |false=>rfl
   | true =>
    rw[cond_true,Kj,J2w,cond_true]
    have:(!decide (0≤atS (tk,st,S,O,M,X,Q) (((J9 k).1.data.toList.getD i 0).toNat:Int) (ns.getD i Ja)))=decide (atS (tk,st,S,O,M,X,Q) (((J9 k).1.data.toList.getD i 0).toNat:Int) (ns.getD i Ja)<0):=by
     rw[Bool.eq_iff_iff];simp
    rw[this];rfl
  rw[hu] at h0
  refine⟨⟨by omega,fun _=>by omega,fun _=>by omega,fun _=>by omega,fun _=>hr⟩,fun h2=> ?_,fun h2=>⟨by omega,(i+1:Nat),by(repeat' first|exact rfl|exact⟨⟩|apply And.intro|omega|dsimp only;omega),⟨by omega, ?_⟩,by omega⟩⟩
  ·rw[show(bif decide (97≤(((J9 k).1.data.toList.getD i 0).toNat:Int)) then decide (atS (tk,st,S,O,M,X,Q) (((J9 k).1.data.toList.getD i 0).toNat:Int) (ns.getD i Ja)<0) else false)=true from h2,cond_true] at h0
   unfold Jw;rw[←h0];rfl
  ·rw[show(bif decide (97≤(((J9 k).1.data.toList.getD i 0).toNat:Int)) then decide (atS (tk,st,S,O,M,X,Q) (((J9 k).1.data.toList.getD i 0).toNat:Int) (ns.getD i Ja)<0) else false)=false from h2,cond_false] at h0
   exact h0
 ·have hlt:¬i<(J9 k).1.size:=by simpa using h1
  have h0:=hi.2
  rw[List.drop_eq_nil_of_le (by omega)] at h0
  have hu0:Kj (tk,st,S,O,M,X,Q) ns (Ji k).1 0=false:=h0.symm
  have hN:Jw (tk,st,S,O,M,X,Q) k ns=bif Ku (tk,st,S,O,M,X,Q) ns (Ji k).1 0 then 9 else 0:=by unfold Jw;rw[hu0];rfl
  have g0:∀{p:Prop},(bif decide ((0:Int)<((J9 k).1.size:Int)) then decide ((((J9 k).1.data.toList.getD 0 0).toNat:Int)<97) else false)=true→(J9 k).1.size≠0:=fun{p} h=>by
   intro q
   rw[q] at h
   cases h
  have hz:∀{b:Bool},(bif decide ((0:Int)<((J9 k).1.size:Int)) then b else false)=true→0<(J9 k).1.size:=fun{b} h=>by
   by_cases q:0<(J9 k).1.size
   ·exact q
   ·rw[decide_eq_false (show ¬(0:Int)<((J9 k).1.size:Int) by omega)] at h;cases h
  have key:(bif bif decide ((0:Int)<((J9 k).1.size:Int)) then decide ((((J9 k).1.data.toList.getD 0 0).toNat:Int)<97) else false then decide (0≤atS (tk,st,S,O,M,X,Q) (IntKind.u8.wrap (IntKind.u8.wrap ((((J9 k).1.data.toList.getD 0 0).toNat:Int)+97)-65)) (ns.getD 0 Ja)) else false)=Ku (tk,st,S,O,M,X,Q) ns (Ji k).1 0:=by
   by_cases q:0<(J9 k).1.size
   ·rw[decide_eq_true (show(0:Int)<((J9 k).1.size:Int) by omega),cond_true]
    have hc:=Jt (l:=(Ji k).1) (k:=0) (d:=((0:Int),false)) (by omega)
    rw[List.drop_zero,hb0 0 q] at hc
    rw[hc]
    unfold Jk3
    by_cases q1:(97:Int)≤(((J9 k).1.data.toList.getD 0 0).toNat:Int)
    ·rw[decide_eq_true q1,decide_eq_false (show ¬(((J9 k).1.data.toList.getD 0 0).toNat:Int)<97 by omega)]
     exact(Jd0 fk).symm
    ·rw[decide_eq_false q1,decide_eq_true (show(((J9 k).1.data.toList.getD 0 0).toNat:Int)<97 by omega)]
     rw[cond_true,cond_false,Ku,J2w,Jd0 fk,J3k (n:=(((J9 k).1.data.toList.getD 0 0).toNat:Int)+97) (by omega) (by omega),J3k (n:=(((J9 k).1.data.toList.getD 0 0).toNat:Int)+97-65) (by omega) (by omega)]
     show _=bif _ then true else false
     cases decide (0≤atS (tk,st,S,O,M,X,Q) ((((J9 k).1.data.toList.getD 0 0).toNat:Int)+97-65) (ns.getD 0 Ja))<;>rfl
   ·rw[decide_eq_false (show ¬(0:Int)<((J9 k).1.size:Int) by omega)]
    have:(Ji k).1=[]:=List.eq_nil_of_length_eq_zero (by omega)
    rw[this];rfl
  refine⟨⟨fun h=>⟨by decide,of_decide_eq_true h⟩,fun h=>⟨by decide,by have:=hz h;omega⟩,fun h=>⟨by decide,by have:=hz h;omega⟩,fun h=>⟨by decide,by have:=hz h;omega⟩,fun _=>hr⟩,fun h2=> ?_,fun h2=> ?_⟩
  ·rw[hN,show Ku (tk,st,S,O,M,X,Q) ns (Ji k).1 0=true from key.symm.trans h2];rfl
  ·rw[hN,show Ku (tk,st,S,O,M,X,Q) ns (Ji k).1 0=false from key.symm.trans h2];rfl
abbrev K3h:=K3i.add Kpm
def V6 (Q:List Per) (s:ByteArray):Bool:=decide ((0:Int)<((L8 Q).filter fun p=>p.2.1.toList==s.toList).length)
theorem Jnt (x:Per) (Q:List Per) (s:ByteArray):V6 (x::Q) s=bif (bif x.2.1.toList==s.toList then x.2.2 else false) then true else V6 Q s:=by
 unfold V6 L8
 rw[List.filter_cons]
 cases h1:x.2.2 with
 |false=>
  rw[if_neg (by simp)]
  cases(x.2.1.toList==s.toList)<;>rfl
 | true =>
  rw[if_pos rfl,List.filter_cons]
  cases h2:(x.2.1.toList==s.toList) with
  |false=>rfl
  |true=>
   rw[if_pos rfl]
   exact decide_eq_true (by simp only[List.length_cons];omega)
def Kc7:Con:={args:=[Yp,aS],ress:=[Bo],owns:=[],pre:=fun((_,_,_,_,_,_,Q),_)=>[Q.length≤1000000],spec:=fun((_,_,_,_,_,_,Q),s,_)=>(V6 Q s,())}
abbrev Kd8 (tk st:Int) (S:List Sta) (O:List Ord) (M:List Met) (X:List Out) (Q:List Per) (s:ByteArray):Ann:={X:=Nat,σ:=fun k=>⟨6,[(1, .one (.str s)),(2, .one (.ptr 5 0)),(5, .one (.int .i64 k))],[(0, .imm 114 L5 S),(1, .imm 119 Zx O),(2, .imm 121 Dd M),(3, .imm 123 Xp X),(4, .imm 125 X7 Q),(5, .box 37 [.int .i64 tk, .int .i64 st, .sl 0, .sl 1, .sl 2, .sl 3, .sl 4])]⟩,inv:=fun k=>k≤Q.length∧V6 Q s=V6 (Q.drop k) s,mu:=fun k=>Q.length-k}
def Km6 (a:Nat) (b:List Per) (c:Bt):=a≤List.length b∧V6 b c=V6 (List.drop a b) c
theorem Koy:Ok Tryz.prog 269 Kc7:=okW K3h Tryz.f269 (fun xx=>Xh (Kd8 xx.1.1 xx.1.2.1 xx.1.2.2.1 xx.1.2.2.2.1 xx.1.2.2.2.2.1 xx.1.2.2.2.2.2.1 xx.1.2.2.2.2.2.2 xx.2.1)) fun xx=>by
 obtain⟨⟨(tk:Int),(st:Int),(S:List Sta),(O:List Ord),(M:List Met),(X:List Out),(Q:List Per)⟩,(s:ByteArray),_⟩:=xx
 refine(by kernel_rfl:(Z45 Q→∃(x:Nat),Jx5 s x S O M X Q tk st∧Km6 x Q s∧∀(x:Nat),Km6 x Q s→Br (Jyk x Q) (T2 (Bd (Nc x) (Ln Q)) (Tw (Lb (J3d Q x).1 s=true→Bd (Nc x) (Ln Q)))∧Br (bif Lb (J3d Q x).1 s then(J3d Q x).2 else false) (true=V6 Q s) (Z14 x∧∃(y:Nat),Jx4 s x y S O M X Q tk st∧Km6 y Q s∧J09 Q y x)) (false=V6 Q s))=_).mp ?_
 delta Z14 Z45 Jyk V9 J3d J09 Km6 Joj Jx5 Jx4 Br Iw Bd T2 Tw Sf Si Ln Nc B0 Lb
 intro hb
 refine⟨(0:Nat),by(repeat' first|exact rfl|exact⟨⟩|apply And.intro|omega|dsimp only;omega),⟨Nat.zero_le _,rfl⟩,fun(k:Nat) hk=>⟨fun h=> ?_,fun h=> ?_⟩⟩
 ·have hlt:k<Q.length:=by simpa using h
  have hd:=Jt (d:=Jiy) hlt
  have h0:=hk.2
  rw[hd,Jnt] at h0
  refine⟨⟨by omega,by omega,fun _=>by omega,fun _=>by omega⟩,fun h1=> ?_,fun h1=>⟨by omega,(k+1:Nat),by(repeat' first|exact rfl|exact⟨⟩|apply And.intro|omega|dsimp only;omega),⟨by omega, ?_⟩,by omega⟩⟩
  ·rw[h0,show(bif (Q.getD k Jiy).snd.fst.toList==s.toList then(Q.getD k Jiy).snd.snd else false)=true from h1];rfl
  ·rw[h0,show(bif (Q.getD k Jiy).snd.fst.toList==s.toList then(Q.getD k Jiy).snd.snd else false)=false from h1];rfl
 ·have hlt:¬k<Q.length:=by simpa using h
  have:k=Q.length:=by omega
  rw[hk.2,this,List.drop_length];rfl
abbrev K3g:=K3h.add Koy
def Kdx (t a b:Int):Bool:=bif (bif decide (a<t) then true else decide (b≤a)) then true else decide (48<b-a)
def J0b:Con:={args:=[aI, .val true Ho],ress:=[Bo],owns:=[],pre:=fun(_,s,_)=>[0≤s.1∧s.1≤999999999,0≤s.2∧s.2≤999999999],spec:=fun(t,s,_)=>(Kdx t s.1 s.2,())}
theorem Koz:Ok Tryz.prog 268 J0b:=okW K3g Tryz.f268 na fun xx=>by
 obtain⟨(t:Int),⟨(a:Int),(b:Int)⟩,_⟩:=xx
 refine(by kernel_rfl:(Kbj a→Kbj b→((bif decide (a<t) then true else decide (b≤a))=false→Iw (b-a))∧(bif bif decide (a<t) then true else decide (b≤a) then true else decide (48<b-a))=Kdx t a b)=_).mp ?_
 delta Kbj Iw
 intro h1 h2
 exact⟨fun _=>by omega,rfl⟩
abbrev Jsk:=K3g.add Koz
def Jc1 (X:List Out):Prop:=(X.map fun x=>x.1).Nodup
theorem Ju4:∀{l:List Out} {k:Nat} {x:Out},(l.map fun x=>x.1).Nodup→x∈l→∃i,Vm (fun y:Out=>y.1.toList==x.1.toList) l k=((k+i:Nat):Int)∧i<l.length∧l.getD i Jbd=x
 |[],_,_,_,h=>by cases h
 | y :: l, k, x, hn, h => by
  rw[List.map_cons,List.nodup_cons] at hn
  unfold Vm
  by_cases q:(y.1.toList==x.1.toList)=true
  ·have q1:=Lt q
   rw[if_pos q]
   rcases List.mem_cons.1 h with h|h
   ·exact⟨0,rfl,by simp,h.symm⟩
   ·exact absurd (q1▸List.mem_map_of_mem (f:=fun z:Out=>z.1) h) hn.1
  ·rw[if_neg q]
   rcases List.mem_cons.1 h with h|h
   ·subst h;exact absurd (beq_self_eq_true _) q
   ·obtain⟨i,h1,h2,h3⟩:=Ju4 (k:=k+1) hn.2 h
    exact⟨i+1,by rw[h1];congr 1;omega,by simp;omega,h3⟩
theorem J3o {X:List Out} (h:Jc1 X) {x:Out} (hx:x∈X):L7 X x.1=x:=by
 obtain⟨i,h1,_,h3⟩:=Ju4 (k:=0) h hx
 unfold L7 J7
 rw[h1,Nat.zero_add,Int.toNat_natCast]
 exact h3
theorem Jpp {α:Type} {p:α→Bool}:∀{l:List α} {k:Nat},Vm p l k<0→∀x∈l,p x=false
 |[],_,_,x,hx=>by cases hx
 | y :: l, k, h, x, hx => by
  unfold Vm at h
  by_cases q:p y=true
  ·rw[if_pos q] at h;omega
  ·rw[if_neg q] at h
   rcases List.mem_cons.1 hx with hx|hx
   ·subst hx;simpa using q
   ·exact Jpp h x hx
theorem Jq5 {X:List Out} {x:Out} (h:Jc1 X) (hn:J7 X x.1<0):Jc1 (X++[x]):=by
 unfold Jc1 at h⊢
 rw[List.map_append,List.nodup_append]
 refine⟨h,by simp,fun a ha b hb=> ?_⟩
 obtain⟨y,hy,rfl⟩:=List.mem_map.1 ha
 have hb:b=x.1:=by simpa using hb
 subst hb
 intro e
 have:=Jpp hn y hy
 rw[e,beq_self_eq_true] at this
 cases this
theorem J3n {X:List Out} {s:ByteArray} {v:Int} (h:Jc1 X) (hf:0≤J7 X s):Jc1 (Jd6 X s v):=by
 unfold Jc1 Jd6 at*
 have hl:=Uo (l:=X) (s:=s)
 rw[List.map_set]
 have:(X.map fun x=>x.1).set (J7 X s).toNat (L7 X s).1=X.map fun x=>x.1:=by
  apply List.ext_getElem?
  intro i
  rw[List.getElem?_set]
  by_cases q:(J7 X s).toNat=i
  ·rw[if_pos q]
   subst q
   rw[if_pos (by rw[List.length_map];omega),List.getElem?_map]
   unfold L7
   rw[List.getD_eq_getElem?_getD,List.getElem?_eq_getElem (by omega)]
   rfl
  ·rw[if_neg q]
 rw[this]
 exact h
def Vl (r:Reg) (e:Ev):Int:=if decide (e.2.2.2.1.getD 0 0<r.1)=true then 22 else if Jw r e.2.1 e.2.2.1≠0 then Jw r e.2.1 e.2.2.1 else ckS r e
def Yo (r:Reg) (e:Ev):Reg:=if decide (e.2.2.2.1.getD 0 0<r.1)=true then r else if Jw r e.2.1 e.2.2.1≠0 then r else if ckS r e≠0 then(e.2.2.2.1.getD 0 0,r.2) else Js r e
def L0:Con:={args:=[Yp,aEv],ress:=[(true,Jk0),I],owns:=[],pre:=fun(r,e,_)=>[Jj r,Jc1 r.2.2.2.2.2.1,r.2.2.2.2.1.length<10000,Jb e=0,(e.2.1.toList==J2.toList)=false],spec:=fun(r,e,_)=>(Yo r e,Vl r e,())}
abbrev Kcf:Ann:={X:=Unit,σ:=fun _=>⟨0,[],[]⟩,inv:=fun _=>True,mu:=fun _=>0,un:=7777}
abbrev L1:Nat→Option Ann:=fun id=>if id=1000034 then some Kcf else none
abbrev Xt (o:Option Ann):FuncId→Nat→Option Ann:=fun f id=>if f=226∨f=227 then(if id=1000073∨id=1000147∨id=1000195∨id=1000233∨id=1000052∨id=1000077∨id=1000097∨id=1000198 then some Kcf else if id=1∨id=3 then o else none) else none
theorem Jrq {r:Reg} {k:ByteArray} {ns:List ByteArray} (h:Jw r k ns=0):Kj r ns (Ji k).1 0=false∧Ku r ns (Ji k).1 0=false:=by
 unfold Jw at h
 cases h1:Kj r ns (Ji k).1 0 with
 |true=>rw[h1] at h;cases h
 |false=>
  rw[h1,cond_false] at h
  cases h2:Ku r ns (Ji k).1 0 with
  |true=>rw[h2] at h;cases h
  |false=>exact⟨rfl,rfl⟩
theorem Jqg {r:Reg} {e:Ev} (h:decide (e.2.2.2.1.getD 0 0<r.1)=true):Yo r e=r∧Vl r e=22:=by unfold Yo Vl;rw[if_pos h,if_pos h];exact⟨rfl,rfl⟩
theorem Jmd {r:Reg} {e:Ev} (h:decide (e.2.2.2.1.getD 0 0<r.1)=false) (h2:Jw r e.2.1 e.2.2.1≠0):Yo r e=r∧Vl r e=Jw r e.2.1 e.2.2.1:=by
 have a:¬decide (e.2.2.2.1.getD 0 0<r.1)=true:=by rw[h];simp
 unfold Yo Vl
 constructor
 ·rw[if_neg a,if_pos h2]
 ·rw[if_neg a,if_pos h2]
theorem Keb {r:Reg} {e:Ev} {c:Int} (h:decide (e.2.2.2.1.getD 0 0<r.1)=false) (h2:Jw r e.2.1 e.2.2.1=0) (h3:ckS r e=c) (h4:c≠0):Yo r e=(e.2.2.2.1.getD 0 0,r.2)∧Vl r e=c:=by
 have a:¬decide (e.2.2.2.1.getD 0 0<r.1)=true:=by rw[h];simp
 have b:¬Jw r e.2.1 e.2.2.1≠0:=by rw[h2];simp
 have d:ckS r e≠0:=by rw[h3];exact h4
 unfold Yo Vl
 rw[if_neg a,if_neg a,if_neg b,if_neg b,if_pos d]
 exact⟨rfl,h3⟩
theorem Kea {r:Reg} {e:Ev} (h:decide (e.2.2.2.1.getD 0 0<r.1)=false) (h2:Jw r e.2.1 e.2.2.1=0) (h3:ckS r e=0):Yo r e=Js r e∧Vl r e=0:=by
 have a:¬decide (e.2.2.2.1.getD 0 0<r.1)=true:=by rw[h];simp
 have b:¬Jw r e.2.1 e.2.2.1≠0:=by rw[h2];simp
 have d:¬ckS r e≠0:=by rw[h3];simp
 unfold Yo Vl
 rw[if_neg a,if_neg a,if_neg b,if_neg b,if_neg d]
 exact⟨rfl,h3⟩
theorem Hm (n lo hi:Int):Ki n lo hi=bif Xj n lo hi then 3 else 0:=rfl
theorem Kec {r:Reg} {e:Ev} (h:decide (e.2.2.2.1.getD 0 0<r.1)=false) (h2:(Jw r e.2.1 e.2.2.1 !=0)=false):Vl r e=ckS r e:=by
 have h2:Jw r e.2.1 e.2.2.1=0:=by simpa using h2
 unfold Vl
 rw[if_neg (by rw[h];simp),if_neg (by rw[h2];simp)]
theorem Ktj {r:Reg} {e:Ev} (h:decide (e.2.2.2.1.getD 0 0<r.1)=false) (h2:(Jw r e.2.1 e.2.2.1 !=0)=false) (h3:ckS r e≠0):Yo r e=(e.2.2.2.1.getD 0 0,r.2):=by
 have h2:Jw r e.2.1 e.2.2.1=0:=by simpa using h2
 exact(Keb h h2 rfl h3).1
theorem Ktk {r:Reg} {e:Ev} (h:decide (e.2.2.2.1.getD 0 0<r.1)=false) (h2:(Jw r e.2.1 e.2.2.1 !=0)=false) (h3:ckS r e=0):Yo r e=Js r e:=by
 have h2:Jw r e.2.1 e.2.2.1=0:=by simpa using h2
 exact(Kea h h2 h3).1
theorem Jnr {α:Type} {p:α→Bool} {d:α}:∀{l:List α} {k:Nat},0≤Vm p l k→∃i,Vm p l k=((k+i:Nat):Int)∧p (l.getD i d)=true
 |[],k,h=>by unfold Vm at h;exact absurd h (by decide)
 | x :: l, k, h => by
  unfold Vm at h⊢
  by_cases q:p x=true
  ·rw[if_pos q];exact⟨0,rfl,q⟩
  ·rw[if_neg q] at h⊢
   obtain⟨i,h1,h2⟩:=Jnr (d:=d) h
   exact⟨i+1,by rw[h1];congr 1;omega,h2⟩
theorem Jlc {X:List Out} {s:ByteArray} (h:0≤J7 X s):(L7 X s).1=s:=by
 unfold J7 at h
 obtain⟨i,h1,h2⟩:=Jnr (d:=Jbd) h
 have:L7 X s=X.getD i Jbd:=by unfold L7 J7;rw[h1,Nat.zero_add];rfl
 rw[this]
 exact Lt h2
theorem Kr8 {M:List Met} {s:ByteArray} {h:Int}:decide (0≤Kv M s h)=(Xs M s h).2:=by
 unfold Xs
 by_cases q:0≤Kv M s h
 ·rw[if_pos q,decide_eq_true q]
 ·rw[if_neg q,decide_eq_false q]
theorem Jqd {f:Int→Bool} {a:Int} {k n:Nat} (h:k<n):Jr8 f (a+(k:Int)) (n-k)=bif f (a+(k:Int)) then true else Jr8 f (a+((k+1:Nat):Int)) (n-(k+1)):=by
 have hj:n-k=(n-(k+1))+1:=by omega
 rw[hj,Jr8]
 have:a+(k:Int)+1=a+((k+1:Nat):Int):=by push_cast;omega
 rw[this]
theorem Jqe {f:Int→Bool} {a:Int} {k n:Nat} (h:n≤k):Jr8 f a (n-k)=false:=by
 have hj:n-k=0:=by omega
 rw[hj];rfl
theorem K7c (a b p:Int):decide (min a b<p)=bif decide (a<p) then true else decide (b<p):=by
 by_cases h:a<p
 ·rw[decide_eq_true h];exact decide_eq_true (by omega)
 ·rw[decide_eq_false h,cond_false]
  by_cases h2:b<p
  ·rw[decide_eq_true h2];exact decide_eq_true (by omega)
  ·rw[decide_eq_false h2];exact decide_eq_false (by omega)
theorem Ksd {α:Type} {l:List α} {p:α→Bool}:decide ((0:Int)<(l.filter p).length)=l.any p:=by
 induction l with
 |nil=>rfl
 |cons x l ih=>
  rw[List.filter_cons,List.any_cons]
  cases h:p x with
  |true=>rw[if_pos rfl,Bool.true_or];exact decide_eq_true (by rw[List.length_cons];omega)
  |false=>rw[if_neg (by simp),Bool.false_or];exact ih
theorem J4i {X:List Out} {Q:List Per} {u:Int} (hu:Jc1 X) (hp:∀p∈Q,0≤J7 X p.2.1):decide ((0:Int)<((L8 Q).filter fun p=>decide ((L7 X p.2.1).2.2.1.2≤u)).length)=X.any fun x=>decide (x.2.2.1.2≤u)&&V6 Q x.1:=by
 rw[Ksd,Bool.eq_iff_iff,List.any_eq_true,List.any_eq_true]
 constructor
 ·rintro⟨p,h1,h2⟩
  have hq:=Jld h1
  have h3:=hp p hq
  refine⟨L7 X p.2.1,Jue h3, ?_⟩
  rw[h2,Bool.true_and]
  unfold V6
  rw[Ksd,List.any_eq_true]
  exact⟨p,h1,by rw[Jlc h3,beq_self_eq_true]⟩
 ·rintro⟨x,h1,h2⟩
  rw[Bool.and_eq_true] at h2
  obtain⟨h2,h3⟩:=h2
  unfold V6 at h3
  rw[Ksd,List.any_eq_true] at h3
  obtain⟨p,h4,h5⟩:=h3
  have h6:p.2.1=x.1:=Lt h5
  exact⟨p,h4,by rw[h6,J3o hu h1];exact h2⟩
theorem Xm {X:List Ord} {s:ByteArray} (h:0≤Kx X s):(Xz X s).1=s:=by
 unfold Kx at h
 obtain⟨i,h1,h2⟩:=Jnr (d:=Jl) h
 have:Xz X s=X.getD i Jl:=by unfold Xz Kx;rw[h1,Nat.zero_add];rfl
 rw[this]
 exact Lt h2
section
variable {r:Reg} {e:Ev}
theorem lfT (h:decide (e.2.2.2.1.getD 0 0<r.1)=true):True∧r=Yo r e∧22=Vl r e:=⟨trivial,(Jqg h).1.symm,(Jqg h).2.symm⟩
theorem lfN (h:decide (e.2.2.2.1.getD 0 0<r.1)=false) (h2:(Jw r e.2.1 e.2.2.1 !=0)=true):True∧r=Yo r e∧Jw r e.2.1 e.2.2.1=Vl r e:=⟨trivial,(Jmd h (bne_iff_ne.mp h2)).1.symm,(Jmd h (bne_iff_ne.mp h2)).2.symm⟩
theorem lfA {c:Int} {R:Reg} (h:decide (e.2.2.2.1.getD 0 0<r.1)=false) (h2:(Jw r e.2.1 e.2.2.1 !=0)=false) (h3:ckS r e=c) (h4:(c≠0∧(e.2.2.2.1.getD 0 0,r.2)=R)∨(c=0∧Js r e=R)):True∧R=Yo r e∧c=Vl r e:=by
 rcases h4 with⟨h4,rfl⟩|⟨rfl,rfl⟩
 ·exact⟨trivial,(Ktj h h2 (by rw[h3];exact h4)).symm,((Kec h h2).trans h3).symm⟩
 ·exact⟨trivial,(Ktk h h2 h3).symm,((Kec h h2).trans h3).symm⟩
theorem Jxy (hr:Jj r) (hc:Jb e=0):e.2.2.1.length=(Ji e.2.1).1.length∧(e.2.2.2.1.length:Int)=(Ji e.2.1).2.1∧r.2.2.1.length≤6∧r.2.2.2.1.length≤32∧r.2.2.2.2.2.1.length≤16∧r.2.2.2.2.2.2.length≤16∧∀i,i<e.2.2.2.1.length→(0≤e.2.2.2.1.getD i 0∧e.2.2.2.1.getD i 0≤999999999):=
 have hE:=Ul hc
 ⟨hE.nn,hE.nv,hr.nS,hr.nO,hr.nX,hr.nQ,fun _ hi=>hE.val _ (Jc hi)⟩
theorem fcN {k ns} (a:(Jw r k ns !=0)=false):Kj r ns (Ji k).1 0=false:=(Jrq (by simpa using a)).1
end
theorem K71 (a b:Bool):(a&&b)=bif a then b else false:=by cases a<;>rfl
theorem rcb:({data:={toList:=[]}}:ByteArray)=Ja:=congrArg (fun x=>x) rfl
theorem rcS (S s):List.getD S (Jx S s).toNat (Ja,0,0)=Hq S s:=congrArg (fun x=>x) rfl
theorem rcO (O s):List.getD O (Kx O s).toNat (Ja,Ja,Ja,(0,0),0,0,0)=Xz O s:=congrArg (fun x=>x) rfl
theorem rcX (X s):List.getD X (J7 X s).toNat (Ja,Ja,(0,0),0)=L7 X s:=congrArg (fun x=>x) rfl
theorem rcQ (Q s):List.getD Q (U0 Q s).toNat (Ja,Ja,false)=Jmj Q s:=congrArg (fun x=>x) rfl
set_option maxHeartbeats 20000000
def Z60 (a:List Met):=List.length a<10000
def Jhy (a:Li) (b:Int):=decide (Z98 a<b)
def Jhx (a:List Ord):=(0+List.length a)*88≤140737488355328
def Jhw (a:List Met):=(0+List.length a)*40≤140737488355328
def Jhv (a:List Per):=(0+List.length a)*40≤140737488355328
def Jhu (a:List Sta):=(0+List.length a)*32≤140737488355328
def Jht (a:List Out):=(0+List.length a)*56≤140737488355328
def Jc8 (a:Li) (b:Int) (c:List Sta) (d:List Ord) (e:List Met) (f:List Out) (g:List Per):=(Z98 a,b,c,d,e,f,g)
def Jsx (a b:Int) (c:List Sta) (d:List Ord) (e:List Met) (f:List Out) (g:List Per) (h:Ls):=Jr a b c d e f g∧Sf true (List.length h=1)
theorem Jh3 (tk st:Int) (S:List Sta) (O:List Ord) (M:List Met) (X:List Out) (Q:List Per) (n:Int) (ns:List ByteArray) (vs:List Int) (tx:ByteArray):wpFG Tryz.prog Jsk.g L1 (Xt (none)) (Sx.look ([(225,Tryz.f225),(226,Tryz.f226),(227,Tryz.f227)]:List (Nat×Func))) Tryz.f132 L0 ((tk,st,S,O,M,X,Q),(n,Jy,ns,vs,tx),()):=by
 refine(by kernel_rfl:(Jr tk st S O M X Q→Jc1 X→Z60 M→Jb (Z24 n ns vs tx)=0→Lb Jy J2=false→Z96 vs∧Br (Jhy vs tk) (Sf true (Z61 tk st S O M X Q=Yo (Z61 tk st S O M X Q) (Z24 n ns vs tx)∧22=Vl (Z61 tk st S O M X Q) (Z24 n ns vs tx))) (Jsx tk st S O M X Q ns∧Br (Jw (Z61 tk st S O M X Q) Jy ns !=0) (Sf true (Z61 tk st S O M X Q=Yo (Z61 tk st S O M X Q) (Z24 n ns vs tx)∧Jw (Z61 tk st S O M X Q) Jy ns=Vl (Z61 tk st S O M X Q) (Z24 n ns vs tx))) (Jhu S∧Jhx O∧Jhw M∧Jht X∧Jhv Q∧Z94 vs∧Br (Xj (Z89 vs) 1 1000) (Z96 vs∧Sf true (Jc8 vs st S O M X Q=Yo (Z61 tk st S O M X Q) (Z24 n ns vs tx)∧3=Vl (Z61 tk st S O M X Q) (Z24 n ns vs tx))) (Br (decide (6≤Ln ([]++S))) (Z96 vs∧Sf true (Jc8 vs st S O M X Q=Yo (Z61 tk st S O M X Q) (Z24 n ns vs tx)∧5=Vl (Z61 tk st S O M X Q) (Z24 n ns vs tx))) (Kk8 ns vs S∧Z96 vs∧Sf true ((Z98 vs,st,Kl1 S ns vs,O,M,X,Q)=Yo (Z61 tk st S O M X Q) (Z24 n ns vs tx)∧0=Vl (Z61 tk st S O M X Q) (Z24 n ns vs tx)))))))=_).mp ?_
 delta Z24 Z28 Z31 Z60 Z61 Z89 Z91 Z93 Z94 Z96 Z98 Jr Jhy Jhx Jhw Jhv Jhu Jht Jc8 Jsx Kl1 Kk8 Br Bd T2 Tw Sf Ln B0 Lb Jy J2
 intro hr hu hm hc _
 obtain⟨hn,hv,nS,nO,nX,nQ,hx⟩:=Jxy hr hc
 simp only[K8,List.length_cons,List.length_nil] at hn hv nS nO nX nQ hx
 have cE:ckS (tk,st,S,O,M,X,Q) (n,Jy,ns,vs,tx)=Jl7 S vs:=by simp only[ckS,K8]
 have sE:Js (tk,st,S,O,M,X,Q) (n,Jy,ns,vs,tx)=(vs.getD 0 0,(Ja0 (tk,st,S,O,M,X,Q) (n,Jy,ns,vs,tx)).2):=by simp only[Js,doS,K8]
 simp only[List.nil_append,rcb,rcS,rcO,rcX,rcQ,Prod.eta]
 repeat' first|exact lfT ‹_›|exact lfN ‹_› ‹_›|exact lfA ‹_› ‹_› (cE.trans (by clear cE sE hx hc;simp only[Jl7,Jg,Hm,List.nil_append, *,cond_true,cond_false,reduceIte,decide_true,decide_false,Bool.not_true,Bool.not_false,Int.reduceEq,Int.reduceNe,ne_eq,not_false_eq_true,not_true_eq_false];first|done|rfl|decide)) (by first|exact .inl ⟨by decide,rfl⟩|exact .inl ⟨bne_iff_ne.mp ‹_›,rfl⟩|exact .inr ⟨rfl,sE.trans (by first|rfl|simp only[Ja0,List.nil_append])⟩)|apply And.intro|intro _
 all_goals first|omega|trivial|assumption
def K1i (a:List Sta) (b:Ls):=Gt ([]++a) (J3b a b) Z11
theorem Jms (tk st:Int) (S:List Sta) (O:List Ord) (M:List Met) (X:List Out) (Q:List Per) (n:Int) (ns:List ByteArray) (vs:List Int) (tx:ByteArray):wpFG Tryz.prog Jsk.g L1 (Xt (none)) (Sx.look ([(225,Tryz.f225),(226,Tryz.f226),(227,Tryz.f227)]:List (Nat×Func))) Tryz.f132 L0 ((tk,st,S,O,M,X,Q),(n,K9,ns,vs,tx),()):=by
 refine(by kernel_rfl:(Jr tk st S O M X Q→Jc1 X→Z60 M→Jb (Z13 n ns vs tx)=0→Lb K9 J2=false→Z96 vs∧Br (Jhy vs tk) (Sf true (Z61 tk st S O M X Q=Yo (Z61 tk st S O M X Q) (Z13 n ns vs tx)∧22=Vl (Z61 tk st S O M X Q) (Z13 n ns vs tx))) (Jsx tk st S O M X Q ns∧Br (Jw (Z61 tk st S O M X Q) K9 ns !=0) (Sf true (Z61 tk st S O M X Q=Yo (Z61 tk st S O M X Q) (Z13 n ns vs tx)∧Jw (Z61 tk st S O M X Q) K9 ns=Vl (Z61 tk st S O M X Q) (Z13 n ns vs tx))) (Jhu S∧Jhx O∧Jhw M∧Jht X∧Jhv Q∧Z94 vs∧Br (decide (1000<Z89 vs)) (Z96 vs∧Sf true (Jc8 vs st S O M X Q=Yo (Z61 tk st S O M X Q) (Z13 n ns vs tx)∧3=Vl (Z61 tk st S O M X Q) (Z13 n ns vs tx))) (T2 (Z91 ns) (Z46 S∧T2 (Z28 vs) (Tw (Bd (J3b S ns) (Ln ([]++S)))))∧Z96 vs∧Sf true ((Z98 vs,st,List.set ([]++S) (Int.toNat (J3b S ns)) ((K1i S ns).1,(K1i S ns).2.1,Z89 vs),O,M,X,Q)=Yo (Z61 tk st S O M X Q) (Z13 n ns vs tx)∧0=Vl (Z61 tk st S O M X Q) (Z13 n ns vs tx))))))=_).mp ?_
 delta Z11 Z13 Z28 Z31 Z46 Z60 Z61 Z89 Z91 Z93 Z94 Z96 Z98 Jr J3b Jhy Jhx Jhw Jhv Jhu Jht Jc8 Jsx K1i Br Bd T2 Tw Sf Ln Gt B0 Lb K9 J2
 intro hr hu hm hc _
 obtain⟨hn,hv,nS,nO,nX,nQ,hx⟩:=Jxy hr hc
 simp only[Va,List.length_cons,List.length_nil] at hn hv nS nO nX nQ hx
 have cE:ckS (tk,st,S,O,M,X,Q) (n,K9,ns,vs,tx)=Jn7 vs:=by simp only[ckS,Va]
 have sE:Js (tk,st,S,O,M,X,Q) (n,K9,ns,vs,tx)=(vs.getD 0 0,(Fl (tk,st,S,O,M,X,Q) (n,K9,ns,vs,tx)).2):=by simp only[Js,doS,Va]
 have hp:decide (vs.getD 1 0<0)=false:=decide_eq_false (by have:=hx 1 (by omega);omega)
 have hF:(Jw (tk,st,S,O,M,X,Q) K9 ns !=0)=false→(0≤Jx S (ns.getD 0 Ja)∧Jx S (ns.getD 0 Ja)<S.length):=fun a=>by
  have z:=fcN a
  rw[Va] at z
  obtain⟨k0,z⟩:=Jn z
  exact⟨Jry (k0 rfl),K2⟩
 simp only[List.nil_append,rcb,rcS,rcO,rcX,rcQ,Prod.eta]
 repeat' first|exact lfT ‹_›|exact lfN ‹_› ‹_›|exact lfA ‹_› ‹_› (cE.trans (by clear cE sE hF hx hc;simp only[Jn7,Ki,Bool.false_or,Hm,List.nil_append, *,cond_true,cond_false,reduceIte,decide_true,decide_false,Bool.not_true,Bool.not_false,Int.reduceEq,Int.reduceNe,ne_eq,not_false_eq_true,not_true_eq_false];first|done|rfl|decide)) (by first|exact .inl ⟨by decide,rfl⟩|exact .inl ⟨bne_iff_ne.mp ‹_›,rfl⟩|exact .inr ⟨rfl,sE.trans (by first|rfl|simp only[Fl,List.nil_append]|simp only[Fl,Xm (hF ‹_›).1])⟩)|apply And.intro|intro _
 all_goals first|omega|trivial|assumption|(have:=hF ‹_›;omega)
abbrev Jhr (tk st:Int) (S:List Sta) (O:List Ord) (M:List Met) (X:List Out) (Q:List Per) (n:Int) (ns:List ByteArray) (vs:List Int) (tx:ByteArray):Ann:={X:=Nat,σ:=fun k=>⟨30,[(2, .one (.ptr 25 0)),(3, .one (.ptr 26 0)),(4, .one (.ptr 27 0)),(6, .one (.sl 6)),(7, .one (.ptr 28 0)),(8, .one (.int .i64 (vs.getD 1 0+k)))],[(5, .imm 9 .str ns),(6, .imm 3 sI vs),(8, .box 67 [.int .i64 n, .str Kl, .sl 5, .sl 6, .str tx]),(9, .box 37 J10),(23, .box 37 [.int .i64 tk, .int .i64 st, .sl 14, .sl 16, .sl 18, .sl 20, .sl 22]),(24, .sus [(3, .one (.ptr 8 0)),(4, .one (.ptr 9 0)),(7, .one (.ptr 23 0))]),(25, .box 37 [.int .i64 tk, .int .i64 st, .sl 14, .sl 16, .sl 18, .sl 20, .sl 22]),(26, .box 67 [.int .i64 n, .str Kl, .sl 5, .sl 6, .str tx]),(27, .box 37 J10),(28, .box 117 [.int .i64 (vs.getD 1 0), .int .i64 (vs.getD 2 0)]),(14, .own 114 L5 S),(16, .own 119 Zx O),(18, .own 121 Dd M),(20, .own 123 Xp X),(22, .own 125 X7 Q)]⟩,inv:=fun k=>k≤(vs.getD 2 0-vs.getD 1 0).toNat∧Jvb S O X (n,Kl,ns,vs,tx)=Jr8 (fun h=>decide (min (Xl S O X (ns.getD 1 Ja) h) (Xl S O X (ns.getD 2 Ja) h)<vs.getD 3 0)) (vs.getD 1 0+k) ((vs.getD 2 0-vs.getD 1 0).toNat-k),mu:=fun k=>(vs.getD 2 0-vs.getD 1 0).toNat-k}
def Jsz (a:Li) (b:Nat):=Z89 a+Nc b
def Khc (a:Li) (b:Nat):=Jsz a b+1
def Km1 (a:Li):=Int.toNat (Z87 a-Z89 a)
def Kmw (a:Li) (b:Nat):=Z89 a=Jsz a b
def Kms (a:Nat) (b:Li):=a≤Km1 b
def Kaj (a:Li) (b:Nat):=Km1 a-b
def Kmf (a:Li) (b:Nat):=decide (Jsz a b<Z87 a)
def Klo (a:Li):=Kdx (Z98 a) (Z89 a) (Z87 a)
def Kln (a:Li) (b c:Nat):=Khc a b=Jsz a c
def J9z (a:Li) (b:Int) (c:List Sta) (d:List Ord) (e:List Met) (f:List Out) (g:List Per) (h i:Int) (j:Ls) (k:Bt):=Jc8 a b c d e f g=Yo (Z61 h b c d e f g) (Z9 i j a k)
def Kfr (a:List Sta) (b:List Ord) (c:List Out) (d:Ls) (e:Li) (f:Nat):=decide (Xl a b c (Le d) (Jsz e f)<Z85 e)=false
def Kjt (a:Li) (b c:Nat):=Kaj a b<Kaj a c
def Ki7 (a:Li):=T2 (Z31 a) ((0≤Z89 a∧Z89 a≤999999999)∧0≤Z87 a∧Z87 a≤999999999)
def Kik (a:Nat) (b:Li) (c:List Sta) (d:List Ord) (e:List Out) (f:Int) (g:Ls) (h:Bt):=Kms a b∧Jvb c d e (Z9 f g b h)=Jr8 (fun(h:Int)=>decide (min (Xl c d e (Jj5 g) h) (Xl c d e (J64 g) h)<Z85 b)) (Jsz b a) (Kaj b a)
def Kij (a:Bt) (b:Li) (c:List Sta) (d:List Ord) (e:List Met) (f:List Out) (g:List Per):=Sf a (Si 0 (Si 0 (Sf Vj (Sf Vj (Sf Vj (Sf Vj (Sf Vj (Si (Z89 b) (Si (Z87 b) (Sf c (Sf d (Sf e (Sf f (g=g))))))))))))))
def J72 (a:Ls) (b:Li) (c:Int) (d:Bt) (e f:Int) (g:List Sta) (h:List Ord) (i:List Met) (j:List Out) (k:List Per):=Sf a (Sf b (Si c (Sf Kl (Sf d (Si 0 (Si 0 (Sf Vj (Sf Vj (Sf Vj (Sf Vj (Sf Vj (Si e (Si f (Si e (Si f (Si c (Sf Kl (Kij d b g h i j k))))))))))))))))))
theorem Jmt (tk st:Int) (S:List Sta) (O:List Ord) (M:List Met) (X:List Out) (Q:List Per) (n:Int) (ns:List ByteArray) (vs:List Int) (tx:ByteArray):wpFG Tryz.prog Jsk.g L1 (Xt (some (Jhr tk st S O M X Q n ns vs tx))) (Sx.look ([(225,Tryz.f225),(226,Tryz.f226),(227,Tryz.f227)]:List (Nat×Func))) Tryz.f132 L0 ((tk,st,S,O,M,X,Q),(n,Kl,ns,vs,tx),()):=by
 refine(by kernel_rfl:(Jr tk st S O M X Q→Jc1 X→Z60 M→Jb (Z9 n ns vs tx)=0→Lb Kl J2=false→Z96 vs∧Br (Jhy vs tk) (Sf true (Z61 tk st S O M X Q=Yo (Z61 tk st S O M X Q) (Z9 n ns vs tx)∧22=Vl (Z61 tk st S O M X Q) (Z9 n ns vs tx))) ((Jr tk st S O M X Q∧Sf true (Js2 ns))∧Br (Jw (Z61 tk st S O M X Q) Kl ns !=0) (Sf true (Z61 tk st S O M X Q=Yo (Z61 tk st S O M X Q) (Z9 n ns vs tx)∧Jw (Z61 tk st S O M X Q) Kl ns=Vl (Z61 tk st S O M X Q) (Z9 n ns vs tx))) (Jhu S∧Jhx O∧Jhw M∧Jht X∧Jhv Q∧Kat vs∧T2 (Z97 ns) (Tw (Z92 ns))∧Br (Km9 ns) (Z96 vs∧Sf true (J9z vs st S O M X Q tk n ns tx∧24=Vl (Z61 tk st S O M X Q) (Z9 n ns vs tx))) (Ki7 vs∧Br (Klo vs) (Z96 vs∧Sf true (J9z vs st S O M X Q tk n ns tx∧14=Vl (Z61 tk st S O M X Q) (Z9 n ns vs tx))) (Z99 vs∧Br (Xj (Z85 vs) 1 1000) (Z96 vs∧Sf true (J9z vs st S O M X Q tk n ns tx∧3=Vl (Z61 tk st S O M X Q) (Z9 n ns vs tx))) (∃(x:Nat),(Kmw vs x∧J72 ns vs n tx tk st S O M X Q)∧Kik x vs S O X n ns tx∧∀(x:Nat),Kik x vs S O X n ns tx→Br (Kmf vs x) (T2 (Z97 ns) (Jr tk st S O M X Q∧J25 S ns∧T2 (Z26 vs) (T2 (Kfr S O X ns vs x→Z92 ns) ((Kfr S O X ns vs x→Jr tk st S O M X Q)∧(Kfr S O X ns vs x→0≤Jx S (Jom ns))∧Tw (Kfr S O X ns vs x→Z26 vs))))∧Br (bif decide (Xl S O X (Le ns) (Jsz vs x)<Z85 vs) then true else decide (Xl S O X (Jom ns) (Jsz vs x)<Z85 vs)) (Z96 vs∧Sf true (J9z vs st S O M X Q tk n ns tx∧4=Vl (Z61 tk st S O M X Q) (Z9 n ns vs tx))) (Iw (Khc vs x)∧∃(y:Nat),(Kln vs x y∧J72 ns vs n tx tk st S O M X Q)∧Kik y vs S O X n ns tx∧Kjt vs y x)) (Br (decide (32≤Ln O)) (Z96 vs∧Sf true (J9z vs st S O M X Q tk n ns tx∧5=Vl (Z61 tk st S O M X Q) (Z9 n ns vs tx))) (T2 (Z91 ns) (T2 (Z97 ns) (T2 (Z92 ns) (T2 (Z26 vs) (T2 (Z97 ns) (Z46 S∧T2 (Bd (Jye S ns) (Ln S)) ((List.length O+1)*88≤140737488355328))))))∧Z96 vs∧Sf true ((Z98 vs,st,S,O++[(Z93 ns,Le ns,Jom ns,Kap vs,Z85 vs,(Gt S (Jye S ns) Z11).2.2,Z67)],M,X,Q)=Yo (Z61 tk st S O M X Q) (Z9 n ns vs tx)∧0=Vl (Z61 tk st S O M X Q) (Z9 n ns vs tx))))))))))=_).mp ?_
 delta Z9 Z11 Z25 Z26 Z28 Z31 Z46 Z60 Z61 Z67 Z85 Z87 Z89 Z91 Z92 Z93 Z96 Z97 Z98 Z99 Jom Le Jj5 J64 Js2 Jr Vj Jye Jsz Jhy Jhx Jhw Jhv Jhu Jht J25 Khc Jc8 Kat Kap Km9 Km1 Kmw Kms Kaj Kmf Klo Kln J9z Kfr Kjt Ki7 Kik Kij J72 Br Iw Bd T2 Tw Sf Si Ln Nc Gt B0 Lb Kl J2
 intro hr hu hm hc _
 obtain⟨hn,hv,nS,nO,nX,nQ,hx⟩:=Jxy hr hc
 simp only[Uv,List.length_cons,List.length_nil] at hn hv nS nO nX nQ hx
 have cE:ckS (tk,st,S,O,M,X,Q) (n,Kl,ns,vs,tx)=Jb4 S O X (n,Kl,ns,vs,tx):=by simp only[ckS,Uv]
 have sE:Js (tk,st,S,O,M,X,Q) (n,Kl,ns,vs,tx)=(vs.getD 0 0,(Fp (tk,st,S,O,M,X,Q) (n,Kl,ns,vs,tx)).2):=by simp only[Js,doS,Uv]
 have hF:(Jw (tk,st,S,O,M,X,Q) Kl ns !=0)=false→(0≤Jx S (ns.getD 1 Ja)∧Jx S (ns.getD 1 Ja)<S.length)∧(0≤Jx S (ns.getD 2 Ja)∧Jx S (ns.getD 2 Ja)<S.length):=fun a=>by
  have z:=fcN a
  rw[Uv] at z
  obtain⟨k0,z⟩:=Jn z
  obtain⟨k1,z⟩:=Jn z
  obtain⟨k2,z⟩:=Jn z
  exact⟨⟨Jry (k1 rfl),K2⟩,⟨Jry (k2 rfl),K2⟩⟩
 have v1:=hx 1 (by omega)
 have v2:=hx 2 (by omega)
 have v3:=hx 3 (by omega)
 have pE:Ze (n,Kl,ns,vs,tx)=bif Kdx (vs.getD 0 0) (vs.getD 1 0) (vs.getD 2 0) then 14 else 0:=rfl
 simp only[List.nil_append,rcb,rcS,rcO,rcX,rcQ,Prod.eta]
 repeat' first|exact lfT ‹_›|exact lfN ‹_› ‹_›|exact lfA ‹_› ‹_› (cE.trans (by clear cE sE hF hx hc;simp only[Jb4,Jho,Jg,Hm,List.nil_append, *,cond_true,cond_false,reduceIte,decide_true,decide_false,Bool.not_true,Bool.not_false,Int.reduceEq,Int.reduceNe,ne_eq,not_false_eq_true,not_true_eq_false];first|done|rfl|decide)) (by first|exact .inl ⟨by decide,rfl⟩|exact .inl ⟨bne_iff_ne.mp ‹_›,rfl⟩|exact .inr ⟨rfl,sE.trans (by first|rfl|(simp only[Fp,List.nil_append];done)|simp only[Fp,Xm (hF ‹_›).1])⟩)|(refine⟨(0:Nat),by(repeat' first|exact rfl|exact⟨⟩|apply And.intro|omega|dsimp only;omega),⟨Nat.zero_le _,by simp[Hi,Vs,Jvb]⟩,fun(k:Nat) hk=>⟨fun h1=> ?_,fun h1=> ?_⟩⟩;obtain⟨k1,k2⟩:=hk;replace h1:=of_decide_eq_true h1;rw[Jqd (by omega)] at k2;rw[K7c] at k2;rotate_left;obtain⟨k1,k2⟩:=hk;replace h1:=of_decide_eq_false h1;rw[Jqe (by omega)] at k2)|(refine⟨(k+1:Nat),by(repeat' first|exact rfl|exact⟨⟩|apply And.intro|omega|dsimp only;omega),⟨by omega, ?_⟩,by omega⟩;rw[k2,show(bif decide (Xl S O X (ns.getD 1 Ja) (vs.getD 1 0+k)<vs.getD 3 0) then true else decide (Xl S O X (ns.getD 2 Ja) (vs.getD 1 0+k)<vs.getD 3 0))=false from ‹_›];rfl)|apply And.intro|intro _
 all_goals first|omega|trivial|assumption|(have:=hF ‹_›;omega)
def Kg3 (a:List Ord) (b:Ls):=Bd (Jqq a b) (Ln ([]++a))
def Kmu (a:List Ord) (b:Ls):=Tw (Kg3 a b)
def J90 (a:Li) (b:Int) (c:List Sta) (d:List Ord) (e:List Met) (f:List Out) (g:List Per) (h i:Int) (j:Ls) (k:Bt):=Jc8 a b c d e f g=Yo (Z61 h b c d e f g) (Z10 i j a k)
def Kko (a:List Ord) (b:Ls):=Gt ([]++a) (Jqq a b) Jdv
def J9x (a:List Ord) (b:Ls):=(Kko a b).1
def Kkk (a:List Ord) (b:Ls):=(Kko a b).2
def Kki (a:List Ord) (b:Ls):=(Kkk a b).2
def Kkg (a:List Ord) (b:Ls):=(Kkk a b).1
def Kkd (a:List Ord) (b:Ls):=(Kki a b).2
def Kkb (a:List Ord) (b:Ls):=(Kki a b).1
def Kka (a:List Ord) (b:Ls):=(Kkd a b).2
def Kj8 (a:List Ord) (b:Ls):=(Kkd a b).1
def Kfq (a:List Ord) (b:Ls):=(Kka a b).1
def Kfp (a:List Ord) (b:Ls):=(Kka a b).2
def Kj6 (a:List Ord) (b:Ls):=(Kfp a b).2
def Kfh (a:List Ord) (b:Ls):=E2 (Kj8 a b)
def Kww (a:List Ord) (b:Ls) (c:Li):=decide (Kfq a b<Z87 c)
def Kwo (a:List Ord) (b:Ls) (c:Li):=Kww a b c=false
theorem Jmu (tk st:Int) (S:List Sta) (O:List Ord) (M:List Met) (X:List Out) (Q:List Per) (n:Int) (ns:List ByteArray) (vs:List Int) (tx:ByteArray):wpFG Tryz.prog Jsk.g L1 (Xt (none)) (Sx.look ([(225,Tryz.f225),(226,Tryz.f226),(227,Tryz.f227)]:List (Nat×Func))) Tryz.f132 L0 ((tk,st,S,O,M,X,Q),(n,K3,ns,vs,tx),()):=by
 refine(by kernel_rfl:(Jr tk st S O M X Q→Jc1 X→Z60 M→Jb (Z10 n ns vs tx)=0→Lb K3 J2=false→Z96 vs∧Br (Jhy vs tk) (Sf true (Z61 tk st S O M X Q=Yo (Z61 tk st S O M X Q) (Z10 n ns vs tx)∧22=Vl (Z61 tk st S O M X Q) (Z10 n ns vs tx))) (Jsx tk st S O M X Q ns∧Br (Jw (Z61 tk st S O M X Q) K3 ns !=0) (Sf true (Z61 tk st S O M X Q=Yo (Z61 tk st S O M X Q) (Z10 n ns vs tx)∧Jw (Z61 tk st S O M X Q) K3 ns=Vl (Z61 tk st S O M X Q) (Z10 n ns vs tx))) (Jhu S∧Jhx O∧Jhw M∧Jht X∧Jhv Q∧T2 (Z91 ns) (Z47 O∧Kmu O ns)∧T2 (Z28 vs) (Z96 vs)∧Br (Km0 vs) (Z96 vs∧Sf true (J90 vs st S O M X Q tk n ns tx∧11=Vl (Z61 tk st S O M X Q) (Z10 n ns vs tx))) (Z94 vs∧Br (!Kq (Kfh O ns) (Z89 vs)) (Z96 vs∧Sf true (J90 vs st S O M X Q tk n ns tx∧14=Vl (Z61 tk st S O M X Q) (Z10 n ns vs tx))) (T2 (Z28 vs) (Z67≤Kj6 O ns)∧Br (!Jo (J9x O ns,Kkg O ns,Kkb O ns,Kfh O ns,Kfq O ns,E2 (Kfp O ns)) (Z89 vs)) (Z96 vs∧Sf true (J90 vs st S O M X Q tk n ns tx∧23=Vl (Z61 tk st S O M X Q) (Z10 n ns vs tx))) (T2 (Z28 vs) (Jr tk st S O M X Q)∧Br (Xs M (J9x O ns) (Z89 vs)).2 (Z96 vs∧Sf true (J90 vs st S O M X Q tk n ns tx∧9=Vl (Z61 tk st S O M X Q) (Z10 n ns vs tx))) (T2 (Z25 vs) (T2 (Kwo O ns vs→Z26 vs) (Tw (Kwo O ns vs→Z25 vs)))∧Br (bif Kww O ns vs then true else Kmz vs) (Z96 vs∧Sf true (J90 vs st S O M X Q tk n ns tx∧3=Vl (Z61 tk st S O M X Q) (Z10 n ns vs tx))) (Kj4 vs M∧Z96 vs∧Sf true ((Z98 vs,st,S,O,M++[(J9x O ns,Klt vs)],X,Q)=Yo (Z61 tk st S O M X Q) (Z10 n ns vs tx)∧0=Vl (Z61 tk st S O M X Q) (Z10 n ns vs tx))))))))))=_).mp ?_
 delta Z10 Z25 Z26 Z28 Z31 Z47 Z60 Z61 Z66 Z67 Z85 Z87 Z89 Z91 Z93 Z94 Z96 Z98 Jr Jqq Jhy Jhx Jhw Jhv Jhu Jht Jc8 Jdv Kg3 Km0 Kmz Kmu Jsx Klt J90 Kko J9x Kkk Kki Kkg Kkd Kkb Kka Kj8 Kfq Kfp Kj6 Kj4 Kfh Kww Kwo Br Bd T2 Tw Sf Ln Gt B0 Lb E2 K3 J2
 intro hr hu hm hc _
 obtain⟨hn,hv,nS,nO,nX,nQ,hx⟩:=Jxy hr hc
 simp only[Uw,List.length_cons,List.length_nil] at hn hv nS nO nX nQ hx
 have cE:ckS (tk,st,S,O,M,X,Q) (n,K3,ns,vs,tx)=Jl8 O M ns vs:=by simp only[ckS,Uw]
 have sE:Js (tk,st,S,O,M,X,Q) (n,K3,ns,vs,tx)=(vs.getD 0 0,(Fq (tk,st,S,O,M,X,Q) (n,K3,ns,vs,tx)).2):=by simp only[Js,doS,Uw]
 have hF:(Jw (tk,st,S,O,M,X,Q) K3 ns !=0)=false→(0≤Kx O (ns.getD 0 Ja)∧Kx O (ns.getD 0 Ja)<O.length):=fun a=>by
  have z:=fcN a
  rw[Uw] at z
  obtain⟨k0,z⟩:=Jn z
  exact⟨J2j (k0 rfl),Uz⟩
 have hP:(Jw (tk,st,S,O,M,X,Q) K3 ns !=0)=false→-1≤(Xz O (ns.getD 0 Ja)).2.2.2.2.2.2:=fun a=>(hr.ord _ (Jbo (hF a).1)).trip.1
 simp only[List.nil_append,rcb,rcS,rcO,rcX,rcQ,Prod.eta]
 repeat' first|exact lfT ‹_›|exact lfN ‹_› ‹_›|exact lfA ‹_› ‹_› (cE.trans (by have hp:=hP ‹_›;clear cE sE hF hP hx hc;simp only[Jl8,Kr8,Jg,Hm,List.nil_append, *,cond_true,cond_false,reduceIte,decide_true,decide_false,Bool.not_true,Bool.not_false,Int.reduceEq,Int.reduceNe,ne_eq,not_false_eq_true,not_true_eq_false];first|done|rfl|decide)) (by first|exact .inl ⟨by decide,rfl⟩|exact .inl ⟨bne_iff_ne.mp ‹_›,rfl⟩|exact .inr ⟨rfl,sE.trans (by first|rfl|(simp only[Fq,List.nil_append];done)|simp only[Fq,Xm (hF ‹_›).1])⟩)|apply And.intro|intro _
 all_goals first|omega|trivial|assumption|exact hP ‹_›|(have:=hF ‹_›;omega)
def Kxl (a:List Ord) (b:Ls):=decide (0≤Kj6 a b)
def Kw7 (a:List Ord) (b:Ls):=Kxl a b=false
theorem Jqy (tk st:Int) (S:List Sta) (O:List Ord) (M:List Met) (X:List Out) (Q:List Per) (n:Int) (ns:List ByteArray) (vs:List Int) (tx:ByteArray):wpFG Tryz.prog Jsk.g L1 (Xt (none)) (Sx.look ([(225,Tryz.f225),(226,Tryz.f226),(227,Tryz.f227)]:List (Nat×Func))) Tryz.f132 L0 ((tk,st,S,O,M,X,Q),(n,Vn,ns,vs,tx),()):=by
 refine(by kernel_rfl:(Jr tk st S O M X Q→Jc1 X→Z60 M→Jb (Z3 n ns vs tx)=0→Lb Vn J2=false→Z96 vs∧Br (Jhy vs tk) (Sf true (Z61 tk st S O M X Q=Yo (Z61 tk st S O M X Q) (Z3 n ns vs tx)∧22=Vl (Z61 tk st S O M X Q) (Z3 n ns vs tx))) (Jsx tk st S O M X Q ns∧Br (Jw (Z61 tk st S O M X Q) Vn ns !=0) (Sf true (Z61 tk st S O M X Q=Yo (Z61 tk st S O M X Q) (Z3 n ns vs tx)∧Jw (Z61 tk st S O M X Q) Vn ns=Vl (Z61 tk st S O M X Q) (Z3 n ns vs tx))) (Jhu S∧Jhx O∧Jhw M∧Jht X∧Jhv Q∧T2 (Z91 ns) (Z47 O)∧T2 (Kg3 O ns) (T2 (Kw7 O ns→Kg3 O ns) (Tw (Kw7 O ns→Z31 vs)))∧Br (bif Kxl O ns then true else decide ((Kj8 O ns).2≤Z98 vs)) (Z96 vs∧Sf true (Jc8 vs st S O M X Q=Yo (Z61 tk st S O M X Q) (Z3 n ns vs tx)∧23=Vl (Z61 tk st S O M X Q) (Z3 n ns vs tx))) (T2 (Z31 vs) (Kmu O ns)∧Z96 vs∧Sf true ((Z98 vs,st,S,List.set ([]++O) (Int.toNat (Jqq O ns)) (J9x O ns,Kkg O ns,Kkb O ns,Kfh O ns,Kfq O ns,(Kfp O ns).1,Z98 vs),M,X,Q)=Yo (Z61 tk st S O M X Q) (Z3 n ns vs tx)∧0=Vl (Z61 tk st S O M X Q) (Z3 n ns vs tx))))))=_).mp ?_
 delta Z3 Z31 Z47 Z60 Z61 Z66 Z91 Z93 Z96 Z98 Jr Jqq Jhy Jhx Jhw Jhv Jhu Jht Jc8 Jdv Kg3 Kmu Jsx Kko J9x Kkk Kki Kkg Kkd Kkb Kka Kj8 Kfq Kfp Kj6 Kfh Kxl Kw7 Br Bd T2 Tw Sf Ln Gt B0 Lb E2 Vn J2
 intro hr hu hm hc _
 obtain⟨hn,hv,nS,nO,nX,nQ,hx⟩:=Jxy hr hc
 simp only[Vo,List.length_cons,List.length_nil] at hn hv nS nO nX nQ hx
 have cE:ckS (tk,st,S,O,M,X,Q) (n,Vn,ns,vs,tx)=Jct O ns vs:=by simp only[ckS,Vo]
 have sE:Js (tk,st,S,O,M,X,Q) (n,Vn,ns,vs,tx)=(vs.getD 0 0,(Fk (tk,st,S,O,M,X,Q) (n,Vn,ns,vs,tx)).2):=by simp only[Js,doS,Vo]
 have hF:(Jw (tk,st,S,O,M,X,Q) Vn ns !=0)=false→(0≤Kx O (ns.getD 0 Ja)∧Kx O (ns.getD 0 Ja)<O.length):=fun a=>by
  have z:=fcN a
  rw[Vo] at z
  obtain⟨k0,z⟩:=Jn z
  exact⟨J2j (k0 rfl),Uz⟩
 have hP:(Jw (tk,st,S,O,M,X,Q) Vn ns !=0)=false→((Xz O (ns.getD 0 Ja)).2.2.2.2.2.2 != -1)=decide (0≤(Xz O (ns.getD 0 Ja)).2.2.2.2.2.2):=fun a=>by
  have h: -1≤(Xz O (ns.getD 0 Ja)).2.2.2.2.2.2:=(hr.ord _ (Jbo (hF a).1)).trip.1
  by_cases q:0≤(Xz O (ns.getD 0 Ja)).2.2.2.2.2.2
  ·rw[decide_eq_true q];exact bne_iff_ne.mpr (by omega)
  ·rw[decide_eq_false q];exact bne_eq_false_iff_eq.mpr (by omega)
 simp only[List.nil_append,rcb,rcS,rcO,rcX,rcQ,Prod.eta]
 repeat' first|exact lfT ‹_›|exact lfN ‹_› ‹_›|exact lfA ‹_› ‹_› (cE.trans (by have hp:=hP ‹_›;clear cE sE hF hP hx hc;simp only[Jct,Hm,List.nil_append, *,cond_true,cond_false,reduceIte,decide_true,decide_false,Bool.not_true,Bool.not_false,Int.reduceEq,Int.reduceNe,ne_eq,not_false_eq_true,not_true_eq_false];first|done|rfl|decide)) (by first|exact .inl ⟨by decide,rfl⟩|exact .inl ⟨bne_iff_ne.mp ‹_›,rfl⟩|exact .inr ⟨rfl,sE.trans (by first|rfl|simp only[Fk,List.nil_append]|simp only[Fk,Xm (hF ‹_›).1])⟩)|apply And.intro|intro _
 all_goals first|omega|trivial|assumption|exact hP ‹_›|(have:=hF ‹_›;omega)
abbrev Jfv (tk st:Int) (S:List Sta) (O:List Ord) (M:List Met) (X:List Out) (Q:List Per) (n:Int) (ns:List ByteArray) (vs:List Int) (tx:ByteArray):Ann:={X:=Nat,σ:=fun k=>⟨30,[(2, .one (.ptr 25 0)),(3, .one (.ptr 26 0)),(4, .one (.ptr 27 0)),(6, .one (.sl 6)),(7, .one (.ptr 28 0)),(8, .one (.int .i64 (vs.getD 1 0+k)))],[(5, .imm 9 .str ns),(6, .imm 3 sI vs),(8, .box 67 [.int .i64 n, .str Jz, .sl 5, .sl 6, .str tx]),(9, .box 37 J10),(23, .box 37 [.int .i64 tk, .int .i64 st, .sl 14, .sl 16, .sl 18, .sl 20, .sl 22]),(24, .sus [(3, .one (.ptr 8 0)),(4, .one (.ptr 9 0)),(7, .one (.ptr 23 0))]),(25, .box 37 [.int .i64 tk, .int .i64 st, .sl 14, .sl 16, .sl 18, .sl 20, .sl 22]),(26, .box 67 [.int .i64 n, .str Jz, .sl 5, .sl 6, .str tx]),(27, .box 37 J10),(28, .box 117 [.int .i64 (vs.getD 1 0), .int .i64 (vs.getD 2 0)]),(14, .own 114 L5 S),(16, .own 119 Zx O),(18, .own 121 Dd M),(20, .own 123 Xp X),(22, .own 125 X7 Q)]⟩,inv:=fun k=>k≤(vs.getD 2 0-vs.getD 1 0).toNat∧Hi (Vs (n,Jz,ns,vs,tx)) (fun h=>decide (vs.getD 3 0<U8 O (ns.getD 1 Ja) h))=Jr8 (fun h=>decide (vs.getD 3 0<U8 O (ns.getD 1 Ja) h)) (vs.getD 1 0+k) ((vs.getD 2 0-vs.getD 1 0).toNat-k),mu:=fun k=>(vs.getD 2 0-vs.getD 1 0).toNat-k}
def Kf8 (a:Li) (b:Int) (c:List Sta) (d:List Ord) (e:List Met) (f:List Out) (g:List Per) (h i:Int) (j:Ls) (k:Bt):=Jc8 a b c d e f g=Yo (Z61 h b c d e f g) (Z15 i j a k)
def Kii (a:Nat) (b:Li) (c:Int) (d:Ls) (e:Bt) (f:List Ord):=Kms a b∧(Hi (Vs (Z15 c d b e)) fun(h:Int)=>decide (Z85 b<U8 f (Jj5 d) h))=Jr8 (fun(h:Int)=>decide (Z85 b<U8 f (Jj5 d) h)) (Jsz b a) (Kaj b a)
def J71 (a:Ls) (b:Li) (c:Int) (d:Bt) (e f:Int) (g:List Sta) (h:List Ord) (i:List Met) (j:List Out) (k:List Per):=Sf a (Sf b (Si c (Sf Jz (Sf d (Si 0 (Si 0 (Sf Vj (Sf Vj (Sf Vj (Sf Vj (Sf Vj (Si e (Si f (Si e (Si f (Si c (Sf Jz (Kij d b g h i j k))))))))))))))))))
theorem Jkg (tk st:Int) (S:List Sta) (O:List Ord) (M:List Met) (X:List Out) (Q:List Per) (n:Int) (ns:List ByteArray) (vs:List Int) (tx:ByteArray):wpFG Tryz.prog Jsk.g L1 (Xt (some (Jfv tk st S O M X Q n ns vs tx))) (Sx.look ([(225,Tryz.f225),(226,Tryz.f226),(227,Tryz.f227)]:List (Nat×Func))) Tryz.f132 L0 ((tk,st,S,O,M,X,Q),(n,Jz,ns,vs,tx),()):=by
 refine(by kernel_rfl:(Jr tk st S O M X Q→Jc1 X→Z60 M→Jb (Z15 n ns vs tx)=0→Lb Jz J2=false→Z96 vs∧Br (Jhy vs tk) (Sf true (Z61 tk st S O M X Q=Yo (Z61 tk st S O M X Q) (Z15 n ns vs tx)∧22=Vl (Z61 tk st S O M X Q) (Z15 n ns vs tx))) ((Jr tk st S O M X Q∧Sf true (Jqs ns))∧Br (Jw (Z61 tk st S O M X Q) Jz ns !=0) (Sf true (Z61 tk st S O M X Q=Yo (Z61 tk st S O M X Q) (Z15 n ns vs tx)∧Jw (Z61 tk st S O M X Q) Jz ns=Vl (Z61 tk st S O M X Q) (Z15 n ns vs tx))) (Jhu S∧Jhx O∧Jhw M∧Jht X∧Jhv Q∧Kat vs∧Ki7 vs∧Br (Klo vs) (Z96 vs∧Sf true (Kf8 vs st S O M X Q tk n ns tx∧14=Vl (Z61 tk st S O M X Q) (Z15 n ns vs tx))) (T2 (Z26 vs) (T2 (Z97 ns) (Z46 S∧Tw (Bd (Jye S ns) (Ln ([]++S)))))∧Br (decide ((Gt ([]++S) (Jye S ns) Z11).2.1≤Z85 vs)) (Z96 vs∧Sf true (Kf8 vs st S O M X Q tk n ns tx∧3=Vl (Z61 tk st S O M X Q) (Z15 n ns vs tx))) (∃(x:Nat),(Kmw vs x∧J71 ns vs n tx tk st S O M X Q)∧Kii x vs n ns tx O∧∀(x:Nat),Kii x vs n ns tx O→Br (Kmf vs x) (T2 (Z97 ns) (Jr tk st S O M X Q∧Z99 vs)∧Br (decide (Z85 vs<U8 O (Le ns) (Jsz vs x))) (Z96 vs∧Sf true (Kf8 vs st S O M X Q tk n ns tx∧24=Vl (Z61 tk st S O M X Q) (Z15 n ns vs tx))) (Iw (Khc vs x)∧∃(y:Nat),(Kln vs x y∧J71 ns vs n tx tk st S O M X Q)∧Kii y vs n ns tx O∧Kjt vs y x)) (Br (decide (16≤Ln X)) (Z96 vs∧Sf true (Kf8 vs st S O M X Q tk n ns tx∧5=Vl (Z61 tk st S O M X Q) (Z15 n ns vs tx))) (T2 (Z91 ns) (T2 (Z97 ns) (Kmm vs X))∧Z96 vs∧Sf true ((Z98 vs,st,S,O,M,X++[(Z93 ns,Le ns,Kap vs,Z85 vs)],Q)=Yo (Z61 tk st S O M X Q) (Z15 n ns vs tx)∧0=Vl (Z61 tk st S O M X Q) (Z15 n ns vs tx)))))))))=_).mp ?_
 delta Z11 Z15 Z25 Z26 Z28 Z31 Z46 Z60 Z61 Z85 Z87 Z89 Z91 Z93 Z96 Z97 Z98 Z99 Le Jqs Jj5 Jr Vj Jye Jsz Jhy Jhx Jhw Jhv Jhu Jht Khc Jc8 Kat Kap Km1 Kmw Kms Kaj Kmm Kmf Klo Kln Kf8 Kjt Ki7 Kij Kii J71 Br Iw Bd T2 Tw Sf Si Ln Nc Gt B0 Lb Jz J2
 intro hr hu hm hc _
 obtain⟨hn,hv,nS,nO,nX,nQ,hx⟩:=Jxy hr hc
 simp only[Kw,List.length_cons,List.length_nil] at hn hv nS nO nX nQ hx
 have cE:ckS (tk,st,S,O,M,X,Q) (n,Jz,ns,vs,tx)=Jb3 S O X (n,Jz,ns,vs,tx):=by simp only[ckS,Kw]
 have sE:Js (tk,st,S,O,M,X,Q) (n,Jz,ns,vs,tx)=(vs.getD 0 0,(Fn (tk,st,S,O,M,X,Q) (n,Jz,ns,vs,tx)).2):=by simp only[Js,doS,Kw]
 have hF:(Jw (tk,st,S,O,M,X,Q) Jz ns !=0)=false→(0≤Jx S (ns.getD 1 Ja)∧Jx S (ns.getD 1 Ja)<S.length):=fun a=>by
  have z:=fcN a
  rw[Kw] at z
  obtain⟨k0,z⟩:=Jn z
  obtain⟨k1,z⟩:=Jn z
  exact⟨Jry (k1 rfl),K2⟩
 have v1:=hx 1 (by omega)
 have v2:=hx 2 (by omega)
 have v3:=hx 3 (by omega)
 have pE:Ze (n,Jz,ns,vs,tx)=bif Kdx (vs.getD 0 0) (vs.getD 1 0) (vs.getD 2 0) then 14 else 0:=rfl
 simp only[List.nil_append,rcb,rcS,rcO,rcX,rcQ,Prod.eta]
 repeat' first|exact lfT ‹_›|exact lfN ‹_› ‹_›|exact lfA ‹_› ‹_› (cE.trans (by clear cE sE hF hx hc;simp only[Jb3,Jhn,Jg,Hm,List.nil_append, *,cond_true,cond_false,reduceIte,decide_true,decide_false,Bool.not_true,Bool.not_false,Int.reduceEq,Int.reduceNe,ne_eq,not_false_eq_true,not_true_eq_false];first|done|rfl|decide)) (by first|exact .inl ⟨by decide,rfl⟩|exact .inl ⟨bne_iff_ne.mp ‹_›,rfl⟩|exact .inr ⟨rfl,sE.trans (by first|rfl|(simp only[Fn,List.nil_append];done)|simp only[Fn,Xm (hF ‹_›).1])⟩)|(refine⟨(0:Nat),by(repeat' first|exact rfl|exact⟨⟩|apply And.intro|omega|dsimp only;omega),⟨Nat.zero_le _,by simp[Hi,Vs,Jvb]⟩,fun(k:Nat) hk=>⟨fun h1=> ?_,fun h1=> ?_⟩⟩;obtain⟨k1,k2⟩:=hk;replace h1:=of_decide_eq_true h1;rw[Jqd (by omega)] at k2;skip;rotate_left;obtain⟨k1,k2⟩:=hk;replace h1:=of_decide_eq_false h1;rw[Jqe (by omega)] at k2)|(refine⟨(k+1:Nat),by(repeat' first|exact rfl|exact⟨⟩|apply And.intro|omega|dsimp only;omega),⟨by omega, ?_⟩,by omega⟩;rw[k2,show decide (vs.getD 3 0<U8 O (ns.getD 1 Ja) (vs.getD 1 0+k))=false from ‹_›];rfl)|apply And.intro|intro _
 all_goals first|omega|trivial|assumption|(have:=hF ‹_›;omega)
def K0s (a:List Out) (b:Ls):=Gt ([]++a) (Js0 a b) Jgb
def K0l (a:List Out) (b:Ls):=(K0s a b).2
def K0i (a:List Out) (b:Ls) (c:Li):=T2 (Bd (Js0 a b) (Ln ([]++a))) (Z96 c)
def K0e (a:List Out) (b:Ls):=(K0l a b).2
def Kz9 (a:List Out) (b:Ls):=(K0e a b).1
def Kz1 (a:List Out) (b:Ls):=(Kz9 a b).1
theorem Jh4 (tk st:Int) (S:List Sta) (O:List Ord) (M:List Met) (X:List Out) (Q:List Per) (n:Int) (ns:List ByteArray) (vs:List Int) (tx:ByteArray):wpFG Tryz.prog Jsk.g L1 (Xt (none)) (Sx.look ([(225,Tryz.f225),(226,Tryz.f226),(227,Tryz.f227)]:List (Nat×Func))) Tryz.f132 L0 ((tk,st,S,O,M,X,Q),(n,Ju,ns,vs,tx),()):=by
 refine(by kernel_rfl:(Jr tk st S O M X Q→Jc1 X→Z60 M→Jb (Z32 n ns vs tx)=0→Lb Ju J2=false→Z96 vs∧Br (Jhy vs tk) (Sf true (Z61 tk st S O M X Q=Yo (Z61 tk st S O M X Q) (Z32 n ns vs tx)∧22=Vl (Z61 tk st S O M X Q) (Z32 n ns vs tx))) (Jsx tk st S O M X Q ns∧Br (Jw (Z61 tk st S O M X Q) Ju ns !=0) (Sf true (Z61 tk st S O M X Q=Yo (Z61 tk st S O M X Q) (Z32 n ns vs tx)∧Jw (Z61 tk st S O M X Q) Ju ns=Vl (Z61 tk st S O M X Q) (Z32 n ns vs tx))) (Jhu S∧Jhx O∧Jhw M∧Jht X∧Jhv Q∧T2 (Z91 ns) (Z59 X)∧K0i X ns vs∧Br (decide (Z98 vs≤Kz1 X ns)) (Z96 vs∧Sf true (Jc8 vs st S O M X Q=Yo (Z61 tk st S O M X Q) (Z32 n ns vs tx)∧21=Vl (Z61 tk st S O M X Q) (Z32 n ns vs tx))) (K0i X ns vs∧Br (decide ((Kz9 X ns).2≤Z98 vs)) (Z96 vs∧Sf true (Jc8 vs st S O M X Q=Yo (Z61 tk st S O M X Q) (Z32 n ns vs tx)∧23=Vl (Z61 tk st S O M X Q) (Z32 n ns vs tx))) (T2 (Z91 ns) (Z45 Q)∧Br (V6 Q (Z93 ns)) (Z96 vs∧Sf true (Jc8 vs st S O M X Q=Yo (Z61 tk st S O M X Q) (Z32 n ns vs tx)∧32=Vl (Z61 tk st S O M X Q) (Z32 n ns vs tx))) (T2 (Z31 vs) (Tw (Bd (Js0 X ns) (Ln ([]++X))))∧Z96 vs∧Sf true ((Z98 vs,st,S,O,M,List.set ([]++X) (Int.toNat (Js0 X ns)) ((K0s X ns).1,(K0l X ns).1,(Kz1 X ns,Z98 vs),(K0e X ns).2),Q)=Yo (Z61 tk st S O M X Q) (Z32 n ns vs tx)∧0=Vl (Z61 tk st S O M X Q) (Z32 n ns vs tx))))))))=_).mp ?_
 delta Z31 Z32 Z45 Z59 Z60 Z61 Z91 Z93 Z96 Z98 Jr Jgb Js0 Jhy Jhx Jhw Jhv Jhu Jht Jc8 Jsx K0s K0l K0i K0e Kz9 Kz1 Br Bd T2 Tw Sf Ln Gt B0 Lb Ju J2
 intro hr hu hm hc _
 obtain⟨hn,hv,nS,nO,nX,nQ,hx⟩:=Jxy hr hc
 simp only[Kk,List.length_cons,List.length_nil] at hn hv nS nO nX nQ hx
 have cE:ckS (tk,st,S,O,M,X,Q) (n,Ju,ns,vs,tx)=Jcu X Q ns vs:=by simp only[ckS,Kk]
 have sE:Js (tk,st,S,O,M,X,Q) (n,Ju,ns,vs,tx)=(vs.getD 0 0,(Fm (tk,st,S,O,M,X,Q) (n,Ju,ns,vs,tx)).2):=by simp only[Js,doS,Kk]
 have hF:(Jw (tk,st,S,O,M,X,Q) Ju ns !=0)=false→(0≤J7 X (ns.getD 0 Ja)∧J7 X (ns.getD 0 Ja)<X.length):=fun a=>by
  have z:=fcN a
  rw[Kk] at z
  obtain⟨k0,z⟩:=Jn z
  exact⟨J2i (k0 rfl),Uo⟩
 have hP:(Jw (tk,st,S,O,M,X,Q) Ju ns !=0)=false→decide ((0:Int)<((L8 Q).filter fun p=>p.2.1.toList==(L7 X (ns.getD 0 Ja)).1.toList).length)=V6 Q (ns.getD 0 Ja):=fun a=>by rw[Jlc (hF a).1];rfl
 simp only[List.nil_append,rcb,rcS,rcO,rcX,rcQ,Prod.eta]
 repeat' first|exact lfT ‹_›|exact lfN ‹_› ‹_›|exact lfA ‹_› ‹_› (cE.trans (by have hp:=hP ‹_›;clear cE sE hF hP hx hc;simp only[Jcu,Jg,Hm,List.nil_append, *,cond_true,cond_false,reduceIte,decide_true,decide_false,Bool.not_true,Bool.not_false,Int.reduceEq,Int.reduceNe,ne_eq,not_false_eq_true,not_true_eq_false];first|done|rfl|decide)) (by first|exact .inl ⟨by decide,rfl⟩|exact .inl ⟨bne_iff_ne.mp ‹_›,rfl⟩|exact .inr ⟨rfl,sE.trans (by first|rfl|simp only[Fm,List.nil_append]|simp only[Fm,Xm (hF ‹_›).1])⟩)|apply And.intro|intro _
 all_goals first|omega|trivial|assumption|exact hP ‹_›|(have:=hF ‹_›;omega)
theorem Jkf (tk st:Int) (S:List Sta) (O:List Ord) (M:List Met) (X:List Out) (Q:List Per) (n:Int) (ns:List ByteArray) (vs:List Int) (tx:ByteArray):wpFG Tryz.prog Jsk.g L1 (Xt (none)) (Sx.look ([(225,Tryz.f225),(226,Tryz.f226),(227,Tryz.f227)]:List (Nat×Func))) Tryz.f132 L0 ((tk,st,S,O,M,X,Q),(n,Kd,ns,vs,tx),()):=by
 refine(by kernel_rfl:(Jr tk st S O M X Q→Jc1 X→Z60 M→Jb (Z17 n ns vs tx)=0→Lb Kd J2=false→Z96 vs∧Br (Jhy vs tk) (Sf true (Z61 tk st S O M X Q=Yo (Z61 tk st S O M X Q) (Z17 n ns vs tx)∧22=Vl (Z61 tk st S O M X Q) (Z17 n ns vs tx))) ((Jr tk st S O M X Q∧Sf true (Jqs ns))∧Br (Jw (Z61 tk st S O M X Q) Kd ns !=0) (Sf true (Z61 tk st S O M X Q=Yo (Z61 tk st S O M X Q) (Z17 n ns vs tx)∧Jw (Z61 tk st S O M X Q) Kd ns=Vl (Z61 tk st S O M X Q) (Z17 n ns vs tx))) (Jhu S∧Jhx O∧Jhw M∧Jht X∧Jhv Q∧T2 (Z97 ns) (Z59 X∧T2 (Bd (J7 X (Le ns)) (Ln ([]++X))) (Z96 vs))∧Br (!Kq (E2 (Gt ([]++X) (J7 X (Le ns)) Jgb).2.2.1) (Z98 vs)) (Z96 vs∧Sf true (Jc8 vs st S O M X Q=Yo (Z61 tk st S O M X Q) (Z17 n ns vs tx)∧22=Vl (Z61 tk st S O M X Q) (Z17 n ns vs tx))) (Br (decide (16≤Ln ([]++Q))) (Z96 vs∧Sf true (Jc8 vs st S O M X Q=Yo (Z61 tk st S O M X Q) (Z17 n ns vs tx)∧5=Vl (Z61 tk st S O M X Q) (Z17 n ns vs tx))) (Kkx ns Q∧Z96 vs∧Sf true ((Z98 vs,st,S,O,M,Klw X Q ns)=Yo (Z61 tk st S O M X Q) (Z17 n ns vs tx)∧0=Vl (Z61 tk st S O M X Q) (Z17 n ns vs tx)))))))=_).mp ?_
 delta Z17 Z31 Z59 Z60 Z61 Z91 Z93 Z96 Z97 Z98 Le Jqs Jr Jgb Jhy Jhx Jhw Jhv Jhu Jht Jc8 Klw Kkx Br Bd T2 Tw Sf Ln Gt B0 Lb E2 Kd J2
 intro hr hu hm hc _
 obtain⟨hn,hv,nS,nO,nX,nQ,hx⟩:=Jxy hr hc
 simp only[K6,List.length_cons,List.length_nil] at hn hv nS nO nX nQ hx
 have cE:ckS (tk,st,S,O,M,X,Q) (n,Kd,ns,vs,tx)=Jcv X Q ns vs:=by simp only[ckS,K6]
 have sE:Js (tk,st,S,O,M,X,Q) (n,Kd,ns,vs,tx)=(vs.getD 0 0,(Fo (tk,st,S,O,M,X,Q) (n,Kd,ns,vs,tx)).2):=by simp only[Js,doS,K6]
 have hF:(Jw (tk,st,S,O,M,X,Q) Kd ns !=0)=false→(0≤J7 X (ns.getD 1 Ja)∧J7 X (ns.getD 1 Ja)<X.length):=fun a=>by
  have z:=fcN a
  rw[K6] at z
  obtain⟨k0,z⟩:=Jn z
  obtain⟨k1,z⟩:=Jn z
  exact⟨J2i (k1 rfl),Uo⟩
 simp only[List.nil_append,rcb,rcS,rcO,rcX,rcQ,Prod.eta]
 repeat' first|exact lfT ‹_›|exact lfN ‹_› ‹_›|exact lfA ‹_› ‹_› (cE.trans (by clear cE sE hF hx hc;simp only[Jcv,Jg,Hm,List.nil_append, *,cond_true,cond_false,reduceIte,decide_true,decide_false,Bool.not_true,Bool.not_false,Int.reduceEq,Int.reduceNe,ne_eq,not_false_eq_true,not_true_eq_false];first|done|rfl|decide)) (by first|exact .inl ⟨by decide,rfl⟩|exact .inl ⟨bne_iff_ne.mp ‹_›,rfl⟩|exact .inr ⟨rfl,sE.trans (by first|rfl|simp only[Fo,List.nil_append]|simp only[Fo,Xm (hF ‹_›).1])⟩)|apply And.intro|intro _
 all_goals first|omega|trivial|assumption|(have:=hF ‹_›;omega)
def K16 (a:List Per) (b:Ls):=Tw (Bd (Jsc a b) (Ln ([]++a)))
def K1w (a:List Per) (b:Ls):=Gt ([]++a) (Jsc a b) (B0,B0,false)
def K1v (a:List Per) (b:Ls):=(K1w a b).2
theorem Jke (tk st:Int) (S:List Sta) (O:List Ord) (M:List Met) (X:List Out) (Q:List Per) (n:Int) (ns:List ByteArray) (vs:List Int) (tx:ByteArray):wpFG Tryz.prog Jsk.g L1 (Xt (none)) (Sx.look ([(225,Tryz.f225),(226,Tryz.f226),(227,Tryz.f227)]:List (Nat×Func))) Tryz.f132 L0 ((tk,st,S,O,M,X,Q),(n,Kc,ns,vs,tx),()):=by
 refine(by kernel_rfl:(Jr tk st S O M X Q→Jc1 X→Z60 M→Jb (Z21 n ns vs tx)=0→Lb Kc J2=false→Z96 vs∧Br (Jhy vs tk) (Sf true (Z61 tk st S O M X Q=Yo (Z61 tk st S O M X Q) (Z21 n ns vs tx)∧22=Vl (Z61 tk st S O M X Q) (Z21 n ns vs tx))) (Jsx tk st S O M X Q ns∧Br (Jw (Z61 tk st S O M X Q) Kc ns !=0) (Sf true (Z61 tk st S O M X Q=Yo (Z61 tk st S O M X Q) (Z21 n ns vs tx)∧Jw (Z61 tk st S O M X Q) Kc ns=Vl (Z61 tk st S O M X Q) (Z21 n ns vs tx))) (Jhu S∧Jhx O∧Jhw M∧Jht X∧Jhv Q∧T2 (Z91 ns) (Z45 Q)∧K16 Q ns∧Br (!(K1v Q ns).2) (Z96 vs∧Sf true (Jc8 vs st S O M X Q=Yo (Z61 tk st S O M X Q) (Z21 n ns vs tx)∧23=Vl (Z61 tk st S O M X Q) (Z21 n ns vs tx))) (K16 Q ns∧Z96 vs∧Sf true ((Z98 vs,st,S,O,M,X,List.set ([]++Q) (Int.toNat (Jsc Q ns)) ((K1w Q ns).1,(K1v Q ns).1,false))=Yo (Z61 tk st S O M X Q) (Z21 n ns vs tx)∧0=Vl (Z61 tk st S O M X Q) (Z21 n ns vs tx))))))=_).mp ?_
 delta Z21 Z31 Z45 Z60 Z61 Z91 Z93 Z96 Z98 Jr Jsc Jhy Jhx Jhw Jhv Jhu Jht Jc8 K16 K1w K1v Jsx Br Bd T2 Tw Sf Ln Gt B0 Lb Kc J2
 intro hr hu hm hc _
 obtain⟨hn,hv,nS,nO,nX,nQ,hx⟩:=Jxy hr hc
 simp only[K5,List.length_cons,List.length_nil] at hn hv nS nO nX nQ hx
 have cE:ckS (tk,st,S,O,M,X,Q) (n,Kc,ns,vs,tx)=Jn6 Q ns:=by simp only[ckS,K5]
 have sE:Js (tk,st,S,O,M,X,Q) (n,Kc,ns,vs,tx)=(vs.getD 0 0,(Jgo (tk,st,S,O,M,X,Q) (n,Kc,ns,vs,tx)).2):=by simp only[Js,doS,K5]
 have hF:(Jw (tk,st,S,O,M,X,Q) Kc ns !=0)=false→(0≤U0 Q (ns.getD 0 Ja)∧U0 Q (ns.getD 0 Ja)<Q.length):=fun a=>by
  have z:=fcN a
  rw[K5] at z
  obtain⟨k0,z⟩:=Jn z
  exact⟨Kia (k0 rfl),Uy⟩
 simp only[List.nil_append,rcb,rcS,rcO,rcX,rcQ,Prod.eta]
 repeat' first|exact lfT ‹_›|exact lfN ‹_› ‹_›|exact lfA ‹_› ‹_› (cE.trans (by clear cE sE hF hx hc;simp only[Jn6,Hm,List.nil_append, *,cond_true,cond_false,reduceIte,decide_true,decide_false,Bool.not_true,Bool.not_false,Int.reduceEq,Int.reduceNe,ne_eq,not_false_eq_true,not_true_eq_false];first|done|rfl|decide)) (by first|exact .inl ⟨by decide,rfl⟩|exact .inl ⟨bne_iff_ne.mp ‹_›,rfl⟩|exact .inr ⟨rfl,sE.trans (by first|rfl|simp only[Jgo,List.nil_append]|simp only[Jgo,Xm (hF ‹_›).1])⟩)|apply And.intro|intro _
 all_goals first|omega|trivial|assumption|(have:=hF ‹_›;omega)
abbrev Jfu (tk st:Int) (S:List Sta) (O:List Ord) (M:List Met) (X:List Out) (Q:List Per) (n:Int) (ns:List ByteArray) (vs:List Int) (tx:ByteArray):Ann:={X:=Nat,σ:=fun k=>⟨30,[(2, .one (.ptr 25 0)),(3, .one (.ptr 26 0)),(4, .one (.ptr 27 0)),(6, .one (.sl 6)),(11, .one (.int .i64 k))],[(5, .imm 9 .str ns),(6, .imm 3 sI vs),(8, .box 67 [.int .i64 n, .str Jh, .sl 5, .sl 6, .str tx]),(9, .box 37 J10),(23, .box 37 [.int .i64 tk, .int .i64 st, .sl 14, .sl 16, .sl 18, .sl 20, .sl 22]),(24, .sus [(3, .one (.ptr 8 0)),(4, .one (.ptr 9 0)),(7, .one (.ptr 23 0))]),(25, .box 37 [.int .i64 tk, .int .i64 st, .sl 14, .sl 16, .sl 18, .sl 20, .sl 22]),(26, .box 67 [.int .i64 n, .str Jh, .sl 5, .sl 6, .str tx]),(27, .box 37 J10),(14, .imm 114 L5 S),(16, .imm 119 Zx O),(18, .imm 121 Dd M),(20, .imm 123 Xp X),(22, .imm 125 X7 Q)]⟩,inv:=fun k=>k≤X.length∧(X.any fun x=>decide (x.2.2.1.2≤vs.getD 1 0)&&V6 Q x.1)=((X.drop k).any fun x=>decide (x.2.2.1.2≤vs.getD 1 0)&&V6 Q x.1),mu:=fun k=>X.length-k}
def K0x (a:List Out) (b:Nat) (c:Li):=decide ((J24 a b).1.2≤Z89 c)
def Kz4 (a:List Out) (b:Nat) (c:Li):=K0x a b c=true
def Ki3 (a:Nat) (b:List Out) (c:Li) (d:List Per):=a≤List.length b∧(List.any b fun(x:Out)=>decide (x.2.2.1.2≤Z89 c)&&V6 d x.1)=List.any (List.drop a b) fun(x:Out)=>decide (x.2.2.1.2≤Z89 c)&&V6 d x.1
def Kvt (a:Li) (b:Int) (c:List Sta) (d:List Ord) (e:List Met) (f:List Out) (g:List Per) (h i:Int) (j:Ls) (k:Bt):=Z96 a∧Sf true (Jc8 a b c d e f g=Yo (Z61 h b c d e f g) (Z18 i j a k)∧32=Vl (Z61 h b c d e f g) (Z18 i j a k))
def J87 (a:Ls) (b:Li) (c:Int) (d:Bt) (e f:Int) (g:List Sta) (h:List Ord) (i:List Met) (j:List Out) (k:List Per):=Sf a (Sf b (Si c (Sf Jh (Sf d (Si 0 (Si 0 (Sf Vj (Sf Vj (Sf Vj (Sf Vj (Sf Vj (Si e (Si f (Si e (Si f (Si c (Sf Jh (Sf d (Si 0 (Si 0 (Sf Vj (Sf Vj (Sf Vj (Sf Vj (Sf Vj (Sf g (Sf h (Sf i (Sf j (k=k))))))))))))))))))))))))))))))
theorem Jkd (tk st:Int) (S:List Sta) (O:List Ord) (M:List Met) (X:List Out) (Q:List Per) (n:Int) (ns:List ByteArray) (vs:List Int) (tx:ByteArray):wpFG Tryz.prog Jsk.g L1 (Xt (some (Jfu tk st S O M X Q n ns vs tx))) (Sx.look ([(225,Tryz.f225),(226,Tryz.f226),(227,Tryz.f227)]:List (Nat×Func))) Tryz.f132 L0 ((tk,st,S,O,M,X,Q),(n,Jh,ns,vs,tx),()):=by
 refine(by kernel_rfl:(Jr tk st S O M X Q→Jc1 X→Z60 M→Jb (Z18 n ns vs tx)=0→Lb Jh J2=false→Z96 vs∧Br (Jhy vs tk) (Sf true (Z61 tk st S O M X Q=Yo (Z61 tk st S O M X Q) (Z18 n ns vs tx)∧22=Vl (Z61 tk st S O M X Q) (Z18 n ns vs tx))) ((Jr tk st S O M X Q∧Sf true (List.length ns=0))∧Br (Jw (Z61 tk st S O M X Q) Jh ns !=0) (Sf true (Z61 tk st S O M X Q=Yo (Z61 tk st S O M X Q) (Z18 n ns vs tx)∧Jw (Z61 tk st S O M X Q) Jh ns=Vl (Z61 tk st S O M X Q) (Z18 n ns vs tx))) (Jhu S∧Jhx O∧Jhw M∧Jht X∧Jhv Q∧T2 (Z28 vs) (T2 (Khk vs st=false→Z28 vs) (Kl0 vs st))∧Br (Kkj vs st) (Z96 vs∧Sf true (Jc8 vs st S O M X Q=Yo (Z61 tk st S O M X Q) (Z18 n ns vs tx)∧14=Vl (Z61 tk st S O M X Q) (Z18 n ns vs tx))) (T2 (Z28 vs) (Jr tk st S O M X Q)∧Br (decide (0<Ln (Kp M (Z89 vs) O))) (Kvt vs st S O M X Q tk n ns tx) (∃(x:Nat),(0=Nc x∧J87 ns vs n tx tk st S O M X Q)∧Ki3 x X vs Q∧∀(x:Nat),Ki3 x X vs Q→Br (Z86 x X) (T2 (Z22 x X) (T2 (Z28 vs) (T2 (Kz4 X x vs→Z22 x X) (Kz4 X x vs→Z45 Q)))∧Br (bif K0x X x vs then V6 Q (J03 X x) else false) (Kvt vs st S O M X Q tk n ns tx) (Z14 x∧∃(y:Nat),(V9 x y∧J87 ns vs n tx tk st S O M X Q)∧Ki3 y X vs Q∧Jyd X y x)) (Z94 vs∧Z96 vs∧Sf true ((Z98 vs,Z89 vs,S,O,M,X,Q)=Yo (Z61 tk st S O M X Q) (Z18 n ns vs tx)∧0=Vl (Z61 tk st S O M X Q) (Z18 n ns vs tx))))))))=_).mp ?_
 delta Z14 Z18 Z22 Z28 Z31 Z45 Z60 Z61 Z86 Z89 Z94 Z96 Z98 V9 Jr Vj Jgb Jhy Khk Jyd Jhx Jhw Jhv Jhu Jht J04 Jc8 J03 J24 Kl0 K0x Kz4 Kkj Ki3 Kvt J87 Br Iw Bd T2 Tw Sf Si Ln Nc B0 Lb Jh J2
 intro hr hu hm hc _
 obtain⟨hn,hv,nS,nO,nX,nQ,hx⟩:=Jxy hr hc
 simp only[Ut,List.length_cons,List.length_nil] at hn hv nS nO nX nQ hx
 have cE:ckS (tk,st,S,O,M,X,Q) (n,Jh,ns,vs,tx)=Lz st O M X Q vs:=by simp only[ckS,Ut]
 have sE:Js (tk,st,S,O,M,X,Q) (n,Jh,ns,vs,tx)=(vs.getD 0 0,(Jaz (tk,st,S,O,M,X,Q) (n,Jh,ns,vs,tx)).2):=by simp only[Js,doS,Ut]
 have lE:=J4i (Q:=Q) (u:=vs.getD 1 0) hu hr.per
 have v1:=hx 1 (by omega)
 simp only[List.nil_append,rcb,rcS,rcO,rcX,rcQ,Prod.eta]
 repeat' first|exact lfT ‹_›|exact lfN ‹_› ‹_›|exact lfA ‹_› ‹_› (cE.trans (by clear cE sE hx hc;simp only[Lz,Bool.true_or,Bool.false_or,Hm,List.nil_append, *,cond_true,cond_false,reduceIte,decide_true,decide_false,Bool.not_true,Bool.not_false,Int.reduceEq,Int.reduceNe,ne_eq,not_false_eq_true,not_true_eq_false];first|done|rfl|decide)) (by first|exact .inl ⟨by decide,rfl⟩|exact .inl ⟨bne_iff_ne.mp ‹_›,rfl⟩|exact .inr ⟨rfl,sE.trans (by first|rfl|simp only[Jaz,List.nil_append])⟩)|(refine⟨(0:Nat),by(repeat' first|exact rfl|exact⟨⟩|apply And.intro|omega|dsimp only;omega),⟨Nat.zero_le _,rfl⟩,fun(k:Nat) hk=>⟨fun h1=> ?_,fun h1=> ?_⟩⟩;obtain⟨k1,k2⟩:=hk;replace h1:=of_decide_eq_true h1;rw[Jt (d:=(Ja,Ja,(0,0),0)) (by omega),List.any_cons] at k2;rw[K71] at k2;rotate_left;obtain⟨k1,k2⟩:=hk;replace h1:=of_decide_eq_false h1;rw[List.drop_eq_nil_of_le (by omega),List.any_nil] at k2)|(refine⟨(k+1:Nat),by(repeat' first|exact rfl|exact⟨⟩|apply And.intro|omega|dsimp only;omega),⟨by omega, ?_⟩,by omega⟩;rw[k2,show(bif decide ((X.getD k (Ja,Ja,(0,0),0)).2.2.1.2≤vs.getD 1 0) then V6 Q (X.getD k (Ja,Ja,(0,0),0)).1 else false)=false from ‹_›];rfl)|apply And.intro|intro _
 all_goals first|omega|trivial|assumption
def Jsn (k:ByteArray):Nat:=if k=Jz then 1 else if k=Kl then 2 else if k=Jh then 3 else 0
def Jwu (tk st:Int) (S:List Sta) (O:List Ord) (M:List Met) (X:List Out) (Q:List Per) (n:Int) (ns:List ByteArray) (vs:List Int) (tx:ByteArray):Nat→Option Ann
 |1=>some (Jfv tk st S O M X Q n ns vs tx)
 |2=>some (Jhr tk st S O M X Q n ns vs tx)
 |3=>some (Jfu tk st S O M X Q n ns vs tx)
 |_=>none
def Jwv:ATup [Yp,aEv]→Option Ann
 |((tk,st,S,O,M,X,Q),(n,k,ns,vs,tx),())=>Jwu tk st S O M X Q n ns vs tx (Jsn k)
theorem Jyr {Γ:Gam} {ann:Nat→Option Ann} {annF:FuncId→Nat→Option Ann} {lib:FuncId→Option Func} {fn:Func} {c:Con} {x:ATup c.args} (hb:fn.body.isSome=true) (h:Un (c.pre x)→wpFG Tryz.prog Γ ann annF lib fn c x):wpFG Tryz.prog Γ ann annF lib fn c x:=by
 unfold wpFG at h⊢
 cases hc:fn.body with
 |none=>rw[hc] at hb;cases hb
 |some code=>
  rw[hc] at h
  exact Jau h
theorem Fd {tk st:Int} {S:List Sta} {O:List Ord} {M:List Met} {X:List Out} {Q:List Per} {n:Int} {k:ByteArray} {ns:List ByteArray} {vs:List Int} {tx:ByteArray} {i:Nat} (h:Jsn k=i):Jwv ((tk,st,S,O,M,X,Q),(n,k,ns,vs,tx),())=Jwu tk st S O M X Q n ns vs tx i:=by rw[←h];rfl
theorem Koi:∀x:ATup [Yp,aEv],wpFG Tryz.prog Jsk.g L1 (Xt (Jwv x)) (Sx.look ([(225,Tryz.f225),(226,Tryz.f226),(227,Tryz.f227)]:List (Nat×Func))) Tryz.f132 L0 x
 | ((tk, st, S, O, M, X, Q), (n, k, ns, vs, tx), ()) => by
  refine Jyr (by kernel_rfl) fun hp=> ?_
  have hc:Jb (n,k,ns,vs,tx)=0:=hp.2.2.2.1
  rcases Vc (Ul hc).kind with h|h|h|h|h|h|h|h|h|h|h<;>dsimp only at h<;>subst h
  ·have h4:(J2.toList==J2.toList)=false:=hp.2.2.2.2
   rw[show(J2.toList==J2.toList)=true from by kernel_rfl] at h4
   cases h4
  ·rw[Fd (show Jsn Jy=0 from by kernel_rfl)];exact Jh3 tk st S O M X Q n ns vs tx
  ·rw[Fd (show Jsn K9=0 from by kernel_rfl)];exact Jms tk st S O M X Q n ns vs tx
  ·rw[Fd (show Jsn Kl=2 from by kernel_rfl)];exact Jmt tk st S O M X Q n ns vs tx
  ·rw[Fd (show Jsn K3=0 from by kernel_rfl)];exact Jmu tk st S O M X Q n ns vs tx
  ·rw[Fd (show Jsn Vn=0 from by kernel_rfl)];exact Jqy tk st S O M X Q n ns vs tx
  ·rw[Fd (show Jsn Jz=1 from by kernel_rfl)];exact Jkg tk st S O M X Q n ns vs tx
  ·rw[Fd (show Jsn Ju=0 from by kernel_rfl)];exact Jh4 tk st S O M X Q n ns vs tx
  ·rw[Fd (show Jsn Kd=0 from by kernel_rfl)];exact Jkf tk st S O M X Q n ns vs tx
  ·rw[Fd (show Jsn Kc=0 from by kernel_rfl)];exact Jke tk st S O M X Q n ns vs tx
  ·rw[Fd (show Jsn Jh=3 from by kernel_rfl)];exact Jkd tk st S O M X Q n ns vs tx
theorem Krl:Ok Tryz.prog 132 L0:=Jen mixed Jsk.ok (by kernel_rfl) (by kernel_rfl) (U5 (l:=([(225,Tryz.f225),(226,Tryz.f226),(227,Tryz.f227)]:List (Nat×Func))) (List.forall_mem_cons.2 ⟨by kernel_rfl,List.forall_mem_cons.2 ⟨by kernel_rfl,List.forall_mem_cons.2 ⟨by kernel_rfl,by simp⟩⟩⟩)) (fun _=>L1) (fun xx=>Xt (Jwv xx)) fun xx=>Koi xx
abbrev K3f:=Jsk.add Krl
theorem J58 {h:Kn} {e:Ev} (h1:e.1=(h.1.length:Int)+1) (h2:(e.2.1.toList==J2.toList)=false):Da h e=Vl (Kf h.2.2) e:=by
 unfold Da Vl Jw
 rw[bne_eq_false_iff_eq.2 h1,h2]
 dsimp only[cond_false]
 cases h3:decide (e.2.2.2.1.getD 0 0<(Kf h.2.2).1) with
 |true=>rw[if_pos rfl];rfl
 | false =>
  rw[if_neg (by simp)]
  cases h4:Kj (Kf h.2.2) e.2.2.1 (Ji e.2.1).1 0 with
  |true=>rw[if_pos (by simp)];rfl
  |false=>
   cases h5:Ku (Kf h.2.2) e.2.2.1 (Ji e.2.1).1 0 with
   |true=>rw[if_pos (by simp)];rfl
   |false=>rw[if_neg (by simp)];rfl
theorem J0w {r:Reg} {e:Ev} (h:Vl r e=0):Yo r e=Js r e:=by
 unfold Vl at h
 unfold Yo
 by_cases a:decide (e.2.2.2.1.getD 0 0<r.1)=true
 ·rw[if_pos a] at h;exact absurd h (by decide)
 rw[if_neg a] at h⊢
 by_cases b:Jw r e.2.1 e.2.2.1≠0
 ·rw[if_pos b] at h;exact absurd h b
 rw[if_neg b] at h⊢
 rw[if_neg (by rw[h];simp)]
def Jor (h:Kn):Prop:=∀r∈h.2.2,Jc1 r.2.2.2.2.2.1
theorem Juh {h:Kn} (hu:Jor h):Jc1 (Kf h.2.2).2.2.2.2.2.1:=by
 unfold Kf
 by_cases h0:0<h.2.2.length
 ·exact hu _ (Jc (by omega))
 ·have:h.2.2=[]:=List.eq_nil_of_length_eq_zero (by omega)
  rw[this];exact List.nodup_nil
theorem Jyu {r:Reg} {e:Ev} (hu:Jc1 r.2.2.2.2.2.1) (hk:Yr e.2.1=true) (h1:Kj r e.2.2.1 (Ji e.2.1).1 0=false) (h2:Ku r e.2.2.1 (Ji e.2.1).1 0=false):Jc1 (Js r e).2.2.2.2.2.1:=by
 obtain⟨tk,st,S,O,M,X,Q⟩:=r
 obtain⟨n,k,ns,vs,tx⟩:=e
 have hu:Jc1 X:=hu
 dsimp only at hk h1 h2
 rcases Vc hk with h|h|h|h|h|h|h|h|h|h|h<;>subst h
 ·simp only[Js,doS,Jbs];exact hu
 ·simp only[Js,doS,K8];exact hu
 ·simp only[Js,doS,Va];exact hu
 ·simp only[Js,doS,Uv];exact hu
 ·simp only[Js,doS,Uw];exact hu
 ·simp only[Js,doS,Vo];exact hu
 ·rw[Kw] at h2
  unfold Ku at h2
  have h3:Ve (tk,st,S,O,M,X,Q) 2 (ns.getD 0 Ja)=false:=by
   cases q:Ve (tk,st,S,O,M,X,Q) 2 (ns.getD 0 Ja) with
   |false=>rfl
   |true=>rw[q] at h2;cases h2
  rw[Je5] at h3
  have h3:=of_decide_eq_false h3
  simp only[Js,doS,Kw]
  exact Jq5 hu (by dsimp only at h3⊢;omega)
 ·rw[Kk] at h1
  have h3:=J2i ((Jn h1).1 rfl)
  simp only[Js,doS,Kk]
  exact J3n hu h3
 ·simp only[Js,doS,K6];exact hu
 ·simp only[Js,doS,K5];exact hu
 ·simp only[Js,doS,Ut];exact hu
theorem Jw5 {h:Kn} {e:Ev} (hk:(e.2.1.toList==J2.toList)=false) (ha:Da h e=0):Kj (Kf h.2.2) e.2.2.1 (Ji e.2.1).1 0=false∧Ku (Kf h.2.2) e.2.2.1 (Ji e.2.1).1 0=false:=by
 obtain⟨n,k,ns,vs,tx⟩:=e
 have:=Jba ((Yw (h:=h) (n:=n) (k:=k) (ns:=ns) (vs:=vs) (tx:=tx) hk).symm.trans ha)
 exact⟨this.2.2.1,this.2.2.2.1⟩
theorem Jw3 {h:Kn} {e:Ev} (hu:Jor h) (ha:Um h e=0):Jor (D3 h e):=by
 obtain⟨hc,hacc⟩:=add_zero ha
 intro r hr
 unfold D3 at hr
 cases hk:e.2.1.toList==J2.toList with
 |true=>
  rw[hk,cond_true] at hr
  exact hu r (List.mem_of_mem_take hr)
 | false =>
  rw[hk,cond_false] at hr
  rcases Yd hr with hr|hr
  ·exact hu r hr
  ·subst hr
   have:=Jw5 hk hacc
   exact Jyu (Juh hu) (Ul hc).kind this.1 this.2
def Jp0 (l:List Ev):List Ev:=if(Jd l).2.2=0 then(Jd l).1.2.1 else[]
def K7f:Con:={args:=[.val false (.list 67 sEv)],ress:=[(false, .list 67 sEv),(true,Jk0),I,I],owns:=[],pre:=fun(l,_)=>[lOk l],spec:=fun(l,_)=>(Jp0 l,Jq l,(Jd l).2.1,(Jd l).2.2,())}
abbrev Kd0 (l:List Ev):Ann:={X:=Kn×Nat,σ:=fun(h,i)=>⟨4,[(0, .one (.sl 0)),(3, .one (.ptr 1 0)),(6, .one (.sl 2)),(7, .one (.sl 3)),(8, .one (.int .i64 i))],[(0, .imm 67 sEv l),(1, .box 37 J10),(2, .own 67 sEv h.2.1),(3, .own 37 Jk0 (U1::h.2.2))]⟩,inv:=fun(h,i)=>Y2 h∧Jor h∧h.1.length=i∧i≤l.length∧l.length≤1000∧Jc2 h (l.drop i)=Jd l,mu:=fun(_,i)=>l.length-i}
theorem Ju6:Jor Zz:=fun _ h=>(by cases h)
theorem K7b {C:List Ev} {G:List Reg} (h:G.length=C.length):(U1::G).getD C.length U1=Kf G:=by
 unfold Kf
 rw[←h]
 cases G with
 |nil=>rfl
 |cons a G=>rfl
theorem Kbu {h:Kn} {e:Ev} {l l':List Ev} {v:Int} (hr:Jc2 h (e::l')=Jd l) (ha:Um h e=v) (hv:v≠0):[]=Jp0 l∧U1=Jq l∧(h.1.length:Int)+1=(Jd l).2.1∧v=(Jd l).2.2:=by
 unfold Jc2 at hr
 rw[if_neg (by rw[ha];exact hv),ha] at hr
 refine⟨?_, ?_,by rw[←hr],by rw[←hr]⟩
 ·unfold Jp0;rw[←hr,if_neg (by exact hv)]
 ·unfold Jq;rw[←hr,if_neg (by exact hv)]
theorem Jtu {h:Kn} {e:Ev} {l l':List Ev} (hr:Jc2 h (e::l')=Jd l) (ha:Um h e=0):Jc2 (D3 h e) l'=Jd l:=by
 unfold Jc2 at hr
 rwa[if_pos ha] at hr
theorem Ked {E C:List Ev} {G:List Reg} {e:Ev} {k:Nat} (hk:E.length=k):Um (E,C,G) e=bif (bif Jb e==0 then e.1 !=(k:Int)+1 else false) then 11 else bif (bif Jb e==0 then e.2.1.toList==J2.toList else false) then(bif (C.length:Int)==0 then 12 else bif (C.getD (C.length-1) ev0).2.1.toList==Jh.toList then 21 else 0) else bif Jb e==0 then Vl (Kf G) e else Jb e:=by
 subst hk
 unfold Um
 by_cases hc:Jb e=0
 ·rw[if_neg (by rw[hc];simp),hc,show((0:Int)==0)=true from rfl,cond_true,cond_true,cond_true]
  cases h1:e.1 !=(E.length:Int)+1 with
  |true=>unfold Da;rw[h1];rfl
  |false=>
   cases h2:e.2.1.toList==J2.toList with
   |true=>unfold Da;rw[h1,h2];rfl
   |false=>rw[cond_false,cond_false];exact J58 (h:=(E,C,G)) (bne_eq_false_iff_eq.1 h1) h2
 ·rw[if_pos hc,beq_false_of_ne hc,cond_false,cond_false,cond_false];rfl
def Z63 (a:Kn×Nat):=Ln a.1.2.1-1
def Kbg (a:Kn×Nat) (b:List Ev):=Nc a.2+1=(Jd b).2.1
def K10 (a:List Ev) (b:Kn×Nat):=Lb (Kam a b).1 J2
def K1n:=[Vr]
def Kyr (a:Kn×Nat):=List.getD (U1::a.1.2.2) (List.length a.1.2.1) Vr
def Kyn (a:Kn×Nat):=(Kyr a).2
def Kyk (a:Kn×Nat):=(Kyn a).2
def Kyg (a:Kn×Nat):=(0+List.length (U1::a.1.2.2))*136≤140737488355328∧(List.length (U1::a.1.2.2)+1)*136≤140737488355328
def Kyf (a:Kn×Nat):=(Kyk a).2
def Kkp (a:Kn×Nat):=(Kyf a).2
def Kya (a:Kn×Nat):=(Kkp a).2
def Kx1 (a:Kn×Nat) (b:List Ev):=(0+List.length a.1.2.1)*88≤140737488355328∧T2 (Z27 a b) ((List.length a.1.2.1+1)*88≤140737488355328)
def Kxr (a:(List Ev×List Ev×List Reg)×Nat) (b:List Ev):=Y2 a.1∧Jor a.1∧Kf0 a b
def Ki8 (a:(List Ev×List Ev×List Reg)×Nat) (b:List Ev) (c:Kn×Nat):=Kxr a b∧List.length b-a.2<List.length b-c.2
def Kes (a:List Ev) (b:Kn×Nat):=Jb (Jx2 a b)
def Keq (a:List Ev) (b:Kn×Nat):=Kes a b==0
def Kuu (a:List Ev) (b:Kn×Nat):=Keq a b=true
def Kur (a:Kn×Nat) (b:List Ev) (c:(List Ev×List Ev×List Reg)×Nat):=a.1.2.1++[Jx2 b a]=c.1.2.1
def Kuj (a:List Ev) (b:Kn×Nat):=Kuu a b→Z27 b a
def Jxf (a:Kn×Nat):=((Kyr a).1,(Kyn a).1,(Kyk a).1,(Kyf a).1,(Kkp a).1,E2 (Kya a))
def J7w (a:Kn×Nat) (b:List Ev):=Yo (Jxf a) (Jx2 b a)
def J7v (a:Kn×Nat) (b:List Ev):=Vl (Jxf a) (Jx2 b a)
def J7u (a:Kn×Nat) (b:List Ev):=(J7w a b).2
def J7t (a:Kn×Nat) (b:List Ev):=(J7u a b).2
def J7s (a:Kn×Nat) (b:List Ev):=(J7t a b).2
def J7r (a:Kn×Nat) (b:List Ev):=(J7s a b).2
def Jxd (a:Kn×Nat) (b:List Ev):=Kx1 a b∧Kyg a∧Z34 a∧∃(y:(List Ev×List Ev×List Reg)×Nat),(Jyh a y∧Sf b (Si 0 (Si 0 (Sf Vj (Sf Vj (Sf Vj (Sf Vj (Sf Vj (Kur a b y∧U1::(a.1.2.2++K1n)=U1::y.1.2.2)))))))))∧Ki8 y b a
def Jxa (a:Kn×Nat) (b:List Ev):=T2 (Bd (Ln a.1.2.1) (Ln (U1::a.1.2.2))) (T2 (Z27 a b) (Jj (Jxf a)∧Jc1 (Kya a).1∧List.length (Kkp a).1<10000∧Kes b a=0∧K10 b a=false))∧Br (J7v a b !=0) (Z34 a∧[]=Jp0 b∧Jsw b∧Kbg a b∧J7v a b=(Jd b).2.2) (Kx1 a b∧Kyg a∧Z34 a∧∃(y:(List Ev×List Ev×List Reg)×Nat),(Jyh a y∧Sf b (Si 0 (Si 0 (Sf Vj (Sf Vj (Sf Vj (Sf Vj (Sf Vj (Kur a b y∧U1::(a.1.2.2++[((J7w a b).1,(J7u a b).1,(J7t a b).1,(J7s a b).1,(J7r a b).1,E2 (J7r a b).2)])=U1::y.1.2.2)))))))))∧Ki8 y b a)
def J65 (a:Kn×Nat) (b:List Ev):=Br (Ln a.1.2.1==0) (Br false (Jxa a b) (Br true (Z34 a∧[]=Jp0 b∧Jsw b∧Kbg a b∧12=(Jd b).2.2) (Jxd a b))) ((Iw (Z63 a)∧Tw (Bd (Z63 a) (Ln a.1.2.1)))∧Br (Lb (Gt a.1.2.1 (Z63 a) Jae).2.1 Jh) (Br false (Jxa a b) (Br true (Z34 a∧[]=Jp0 b∧Jsw b∧Kbg a b∧21=(Jd b).2.2) (Jxd a b))) ((Iw (Z63 a)∧(0≤Z63 a∧Z63 a≤Ln a.1.2.1)∧0≤Ln a.1.2.1∧Ln a.1.2.1≤Ln (U1::a.1.2.2))∧Z34 a∧∃(y:(List Ev×List Ev×List Reg)×Nat),(Jyh a y∧Sf b (Si 0 (Si 0 (Sf Vj (Sf Vj (Sf Vj (Sf Vj (Sf Vj (List.take (Int.toNat (Z63 a)) a.1.2.1=y.1.2.1∧List.take (List.length a.1.2.1) (U1::a.1.2.2)=U1::y.1.2.2)))))))))∧Ki8 y b a))
theorem K54:Ok Tryz.prog 82 K7f:=okW K3f Tryz.f82 (fun xx=>Xh (Kd0 xx.1)) fun xx=>by
 obtain⟨(l:List Ev),_⟩:=xx
 refine(by kernel_rfl:(lOk l→Br (decide (1000<Ln l)) ([]=Jp0 l∧Jsw l∧0=(Jd l).2.1∧5=(Jd l).2.2) (∃(x:(List Ev×List Ev×List Reg)×Nat),(0=Nc x.2∧Sf l (Si 0 (Si 0 (Sf Vj (Sf Vj (Sf Vj (Sf Vj (Sf Vj (List.length x.1.2.1=0∧K1n=U1::x.1.2.2)))))))))∧Kxr x l∧∀(x:Kn×Nat),Y2 x.1∧Jor x.1∧Kf1 x l→Br (decide (Nc x.2<Ln l)) (T2 (Z27 x l) (List.length (J22 l x).1≤1000000∧List.length (J22 l x).2.1≤1000000∧∀(s:ByteArray),s∈(J22 l x).1→ByteArray.size s≤1000000)∧T2 (Kuj l x) (Kuu l x→Z34 x)∧Br (bif Keq l x then(Kan l x).1 !=Nc x.2+1 else false) (Tw (false=true→Z27 x l)∧Br false (J65 x l) (Br false (Jxa x l) (Br true (Z34 x∧[]=Jp0 l∧Jsw l∧Kbg x l∧11=(Jd l).2.2) (Jxd x l)))) (Tw (Kuj l x)∧Br (bif Keq l x then K10 l x else false) (J65 x l) (Br (Keq l x) (Jxa x l) (Br (Kes l x !=0) (Z34 x∧[]=Jp0 l∧Jsw l∧Kbg x l∧Kes l x=(Jd l).2.2) (Jxd x l))))) (Tw (Bd (Ln x.1.2.1) (Ln (U1::x.1.2.2)))∧x.1.2.1=Jp0 l∧Jxf x=Jq l∧0=(Jd l).2.1∧0=(Jd l).2.2)))=_).mp ?_
 delta Z27 Z34 Z63 Jyh Vj Kbg Jae Kan Kam J22 Df Vr K10 K1n Jsw Kyr Kyn Kyk Kyg Kf1 Kyf Kf0 Kkp Kya Kx1 Kxr Ki8 Jx2 Kes Keq Kuu Kur Kuj Jxf J7w J7v J7u J7t J7s J7r Jxd Jxa J65 Br Iw Bd T2 Tw Sf Si Ln Nc Gt B0 Lb E2 Jh J2
 intro hl
 have hbn:({data:={toList:=[]}}:ByteArray)=Ja:=rfl
 have hev:((0:Int),Ja,([]:List ByteArray),([]:List Int),Ja)=ev0:=rfl
 have hrg:((0:Int),(0:Int),([]:List Sta),([]:List Ord),([]:List Met),([]:List Out),([]:List Per))=U1:=rfl
 have hun:({data:={toList:=[117,110,100,111]}}:ByteArray)=J2:=rfl
 have hse:({data:={toList:=[115,101,116,116,108,101]}}:ByteArray)=Jh:=rfl
 simp only[hbn,hev,hrg,hun,hse,Prod.eta,Bool.false_eq_true,Bool.true_eq_false,false_implies,true_implies,true_and,and_true]
 refine⟨fun h=> ?_,fun h=>⟨(([],[],[]),(0:Nat)),by(repeat' first|exact rfl|exact⟨⟩|apply And.intro|omega|dsimp only;omega), ?_,fun(x:Kn×Nat) hk=> ?_⟩⟩
 ·have e:Jd l=(Zz,0,5):=by unfold Jd;rw[if_pos (by have:=of_decide_eq_true h;omega)]
  refine⟨?_, ?_,by rw[e],by rw[e]⟩
  ·unfold Jp0;rw[e];rfl
  ·unfold Jq;rw[e];rfl
 ·have hn:l.length≤1000:=by have:=of_decide_eq_false h;omega
  exact⟨Hf,Ju6,rfl,Nat.zero_le _,hn,by unfold Jd;rw[if_neg (by omega)];rfl⟩
 ·obtain⟨⟨E,C,G⟩,k⟩:=x
  obtain⟨hI,hU,hk1,hk2,hk3,hk4⟩:=hk
  dsimp only at hI hU hk1 hk2 hk3 hk4⊢
  have hG:G.length=C.length:=hI.ok.nG
  have hC:C.length≤E.length:=hI.ok.nC
  have hN:=K7b hG
  have hR:Jj (Kf G):=X1 hI.ok
  have hUx:Jc1 (Kf G).2.2.2.2.2.1:=Juh (h:=(E,C,G)) hU
  have hM:(Kf G).2.2.2.2.1.length≤E.length:=Jui hI
  simp only[hN]
  refine⟨fun hlt=> ?_,fun hge=> ?_⟩
  ·have hlt:(k:Int)<l.length:=of_decide_eq_true hlt
   have hz:=hl.2 _ (Jc (d:=ev0) (show k<l.length by omega))
   rw[Jt (d:=ev0) (by omega)] at hk4
   generalize l.getD k ev0=e at*
   have hA:=Ked (C:=C) (G:=G) (e:=e) hk1
   have hT:((C.length:Int)-1).toNat=C.length-1:=by omega
   rw[hT]
   have hi64:(-9223372036854775808≤(k:Int)+1∧(k:Int)+1≤9223372036854775807):=⟨by omega,by omega⟩
   have hkk:(0≤(k:Int)∧(k:Int)<l.length):=⟨by omega,hlt⟩
   have no:∀v,Um (E,C,G) e=v→v≠0→[]=Jp0 l∧U1=Jq l∧(k:Int)+1=(Jd l).2.1∧v=(Jd l).2.2:=fun v p q=>by
    have:=Kbu hk4 p q
    dsimp only at this
    rwa[hk1] at this
   have len1:((U1::G).length:Int)=G.length+1:=by simp
   have len2:(U1::G).length=G.length+1:=by simp
   refine⟨⟨hkk,hkk,hz⟩,⟨fun _=>hkk,fun _=>hkk,fun _=>hi64⟩,fun a=>⟨hi64,no 11 (by rw[hA,a];rfl) (by decide)⟩,fun a=>⟨⟨fun _=>hkk,fun _=>hkk⟩,fun b=>⟨fun c=>⟨hi64,no 12 (by rw[hA,a,b,c];rfl) (by decide)⟩,fun c=> ?_⟩,fun b=>⟨fun c=> ?_,fun c=> ?_⟩⟩⟩
   ·have c0:(C.length:Int)≠0:=by simpa using c
    refine⟨⟨⟨by omega,by omega⟩,⟨by omega,by omega⟩,by omega,by omega⟩,fun d=>⟨hi64,no 21 (by rw[hA,a,b,c,d];rfl) (by decide)⟩,fun d=> ?_⟩
    have ha:Um (E,C,G) e=0:=by rw[hA,a,b,c,d];rfl
    have hu:(e.2.1.toList==J2.toList)=true:=by
     cases q:Jb e==0 with
     |true=>rw[q] at b;exact b
     |false=>rw[q] at b;cases b
    have eH:D3 (E,C,G) e=(E++[e],C.take (C.length-1),G.take (C.length-1)):=by unfold D3;rw[hu,cond_true]
    refine⟨⟨⟨by omega,by omega⟩,⟨by omega,by omega⟩,by omega,by omega⟩,hi64,(D3 (E,C,G) e,k+1),⟨by push_cast;rfl,by rw[eH], ?_⟩,⟨Jfy hI (by show E.length<1000;omega) ha,Jw3 hU ha,by rw[D2];show E.length+1=k+1;omega,by show k+1≤l.length;omega,hk3,Jtu hk4 ha⟩,by show l.length-(k+1)<_;omega⟩
    rw[eH]
    have q:C.length=(C.length-1)+1:=by omega
    show List.take C.length (U1::G)=U1::G.take (C.length-1)
    conv=>lhs;rw[q]
    rfl
   ·have c0:Jb e=0:=by simpa using c
    have hu:(e.2.1.toList==J2.toList)=false:=by rw[c] at b;exact b
    have hA2:Um (E,C,G) e=Vl (Kf G) e:=by rw[hA,a,b,c];rfl
    refine⟨⟨⟨by omega,by omega⟩,⟨by omega,by omega⟩,hkk,hkk,hR,hUx,Nat.lt_of_le_of_lt hM (by omega),c0,hu⟩,fun d=>⟨hi64,no _ hA2 (bne_iff_ne.1 d)⟩,fun d=> ?_⟩
    have d0:Vl (Kf G) e=0:=bne_eq_false_iff_eq.1 d
    have ha:=hA2.trans d0
    have eH:D3 (E,C,G) e=(E++[e],C++[e],G++[Js (Kf G) e]):=by unfold D3;rw[hu,cond_false]
    refine⟨⟨by omega,hkk,hkk,by omega⟩,⟨by omega,by omega⟩,hi64,(D3 (E,C,G) e,k+1),⟨by push_cast;rfl,by rw[eH],by rw[eH,J0w d0]⟩,⟨Jfy hI (by show E.length<1000;omega) ha,Jw3 hU ha,by rw[D2];show E.length+1=k+1;omega,by show k+1≤l.length;omega,hk3,Jtu hk4 ha⟩,by show l.length-(k+1)<_;omega⟩
   ·have c0:Jb e≠0:=by simpa using c
    exact⟨fun d=>⟨hi64,no _ (by rw[hA,a,b,c];rfl) c0⟩,fun d=>absurd (bne_eq_false_iff_eq.1 d) c0⟩
  ·have hge:=of_decide_eq_false hge
   have:k=l.length:=by omega
   rw[this,List.drop_length,Jc2] at hk4
   have eR:Jq l=Kf G:=by unfold Jq;rw[←hk4];rfl
   have eC:Jp0 l=C:=by unfold Jp0;rw[←hk4];rfl
   have len1:((U1::G).length:Int)=G.length+1:=by simp
   exact⟨⟨⟨by omega,by omega⟩,by omega,by omega⟩,eC.symm,eR.symm,by rw[←hk4],by rw[←hk4]⟩
abbrev K3e:=K3f.add K54
theorem Jts {e:Ev} (h:Xk e=true):e.2.1.size≤40∧e.2.2.1.length≤6∧e.2.2.2.1.length≤8∧e.2.2.2.2.size≤200∧∀s∈e.2.2.1,s.size≤40:=by
 unfold Xk at h
 cases q:Jhi e with
 |true=>rw[q] at h;cases h
 |false=>
  rw[q,cond_false] at h
  unfold Jhi at q
  have q1:=bn1 q
  have q2:=bn1 q1.1
  have q3:=bn1 q2.1
  have a1:=of_decide_eq_false q1.2
  have a2:=of_decide_eq_false q2.2
  have a3:=of_decide_eq_false q3.2
  have a4:=of_decide_eq_false q3.1
  refine⟨by omega,by omega,by omega,by omega,fun s hs=> ?_⟩
  have:=List.all_eq_true.1 h s hs
  have:decide (40<(s.size:Int))=false:=by simpa using this
  have:=of_decide_eq_false this
  omega
theorem Jtr {l:List Ev} {n:Int} (hn:n≤1000) (h:He l n=true):lOk l∧(l.length:Int)≤n:=by
 unfold He at h
 cases q:decide (n<(l.length:Int)) with
 |true=>rw[q] at h;cases h
 |false=>
  rw[q,cond_false] at h
  have q:=of_decide_eq_false q
  refine⟨⟨by omega,fun e he=> ?_⟩,by omega⟩
  have b:=Jts (List.all_eq_true.1 h e he)
  exact⟨by omega,by omega,fun s hs=>by have:=b.2.2.2.2 s hs;omega⟩
def Kcn:Con:={args:=[.val false (.list 67 sEv)],ress:=[(true,Jk0),I,I],owns:=[],pre:=fun(l,_)=>[lOk l],spec:=fun(l,_)=>(Jq l,(Jd l).2.1,(Jd l).2.2,())}
theorem K66:Ok Tryz.prog 17 Kcn:=okW K3e Tryz.f17 na fun xx=>by
 obtain⟨(l:List Ev),_⟩:=xx
 refine(by kernel_rfl:(lOk l→lOk l∧Jx6 l=Jq l∧Si (Jd l).2.1 ((Jd l).2.2=(Jd l).2.2))=_).mp ?_
 delta Jx6 Si E2
 intro hl
 exact⟨hl,rfl,rfl,rfl⟩
abbrev K76:=K3e.add K66
abbrev K75:=K76
abbrev J51 (T U:TypeId) (s:Sch) (l:List s.T):Ann:={X:=Nat,σ:=fun k=>⟨2,[(3, .one (.sl 1)),(6, .one (.sl 0)),(7, .one (.int .i64 l.length)),(8, .one (.int .i64 k))],[(0, .imm T s l),(1, .own U s (l.take k))]⟩,inv:=fun k=>k≤l.length,mu:=fun k=>l.length-k}
def Yc (a b:Hl):Bool:=a.1.toList==b.1.toList&&(a.2.1==b.2.1&&(a.2.2.1==b.2.2.1&&(a.2.2.2.1==b.2.2.2.1&&(a.2.2.2.2.1==b.2.2.2.2.1&&(a.2.2.2.2.2==b.2.2.2.2.2&&true)))))
abbrev K74:=K75
abbrev K3d:=K74
def J5j:Con:={args:=[.val false (.list 129 D5)],ress:=[(false, .list 234 D5)],owns:=[true],pre:=fun(l,_)=>[l.length≤1000000],spec:=fun(l,_)=>(l,())}
def J6i (a:List Hl):=List.length a
def Kg0 (a:Nat) (b:List Hl):=List.take a b
def Kag (a:Nat) (b:List Hl):=a≤J6i b
def Kml (a:List Hl) (b:Nat):=J6i a-b
def Kma (a:List Hl):=J6i a≤1000000
def Kkn (a:List Hl) (b:Nat):=List.getD a b J05
def Kkl (a:List Hl) (b:Nat):=(Kkn a b).2
def Kfx (a:List Hl) (b:Nat):=(Kkn a b).1
def Kfw (a:List Hl) (b:Nat):=(Kkl a b).1
def Kkh (a:List Hl) (b:Nat):=(Kkl a b).2
def Kkc (a:List Hl) (b:Nat):=(Kkh a b).2
def Kfv (a:List Hl) (b:Nat):=(Kkh a b).1
def Kfu (a:List Hl) (b:Nat):=(Kkc a b).1
def Kft (a:List Hl) (b:Nat):=(Kkc a b).2
def Kxz (a:Nat) (b:List Hl):=List.length (Kg0 a b)
def Kjp (a:List Hl) (b c:Nat):=Kml a b<Kml a c
theorem K6j:Ok Tryz.prog 52 J5j:=okW K3d Tryz.f52 (fun xx=>Xh (J51 129 234 D5 xx.1)) fun xx=>by
 obtain⟨(l:List Hl),_⟩:=xx
 refine(by kernel_rfl:(Kma l→∃(x:Nat),Si (Ln l) (0=Nc x∧Sf l (Kxz x l=0))∧Kag x l∧∀(x:Nat),Kag x l→Br (decide (Nc x<Ln l)) (Tw (Bd (Nc x) (Ln l))∧(Kxz x l+1)*56≤140737488355328∧Z14 x∧∃(y:Nat),Si (Ln l) (V9 x y∧Sf l (Kg0 x l++(Kfx l x,Kfw l x,Kfv l x,Kfu l x,E2 (Kft l x))::Jx8=Kg0 y l))∧Kag y l∧Kjp l y x) (Kg0 x l=l))=_).mp ?_
 delta Z14 Z66 V9 J05 Jx8 J6i Kg0 Kag Kml Kma Kkn Kkl Kfx Kfw Kkh Kkc Kfv Kfu Kft Kxz Kjp Br Iw Bd Tw Sf Si Ln Nc B0 E2
 intro hl
 refine⟨(0:Nat),⟨rfl,rfl,rfl,rfl⟩,Nat.zero_le _,fun(k:Nat) hk=>⟨fun h=> ?_,fun h=> ?_⟩⟩
 ·have hlt:k<l.length:=by simpa using h
  refine⟨⟨⟨by omega,by omega⟩,by omega,by omega⟩,by rw[List.length_take];omega,⟨by omega,by omega⟩,(k+1:Nat),⟨rfl,by push_cast;rfl,rfl, ?_⟩,by omega,by omega⟩
  exact Us (d:=(Ja,0,0,0,0,0)) hlt
 ·have hlt:¬k<l.length:=by simpa using h
  exact List.take_of_length_le (by omega)
abbrev K3c:=K3d.add K6j
def J4y:Con:=Ksm 234 D5 Yc
def K14 (a:Nat) (b:List Hl):=List.drop a b
def Kmd (a b:List Hl):=eqL Yc a b
def K1e (a b:List Hl):=false=Kmd a b
def Kx7 (a:List Hl) (b:Nat):=(Kft a b).1
def Kx6 (a:List Hl) (b:Nat):=(Kft a b).2
def Kif (a:Nat) (b c:List Hl):=Kag a b∧J6i b=J6i c∧eqL Yc (K14 a b) (K14 a c)=Kmd b c
theorem K6k:Ok Tryz.prog 51 J4y:=okW K3c Tryz.f51 (fun xx=>Xh (J5q 234 D5 Yc xx.1 xx.2.1)) fun xx=>by
 obtain⟨(xs:List Hl),(ys:List Hl),_⟩:=xx
 refine(by kernel_rfl:(Kma xs→Br (Ln xs !=Ln ys) (K1e xs ys) (∃(x:Nat),(0=Nc x∧Sf xs (ys=ys))∧Kif x xs ys∧∀(x:Nat),Kif x xs ys→Br (decide (Nc x<Ln xs)) (T2 (Bd (Nc x) (Ln xs)) (Tw (Bd (Nc x) (Ln ys)))∧Br (!(Lb (Kfx xs x) (Kfx ys x)&&(Kfw xs x==Kfw ys x&&(Kfv xs x==Kfv ys x&&(Kfu xs x==Kfu ys x&&(Kx7 xs x==Kx7 ys x&&(Kx6 xs x==Kx6 ys x&&true))))))) (K1e xs ys) (Z14 x∧∃(y:Nat),(V9 x y∧Sf xs (ys=ys))∧Kif y xs ys∧Kjp xs y x)) (true=Kmd xs ys)))=_).mp ?_
 delta Z14 Z66 V9 J05 J6i K14 Kag Kml Kmd Kma K1e Kkn Kkl Kfx Kfw Kkh Kkc Kfv Kfu Kft Kx7 Kx6 Kjp Kif Br Iw Bd T2 Tw Sf Ln Nc B0 Lb
 intro hl
 refine⟨fun h=> ?_,fun h=>⟨(0:Nat),by(repeat' first|exact rfl|exact⟨⟩|apply And.intro|omega|dsimp only;omega),⟨Nat.zero_le _, ?_,rfl⟩,fun(k:Nat) hk=>⟨fun h1=> ?_,fun h1=> ?_⟩⟩⟩
 ·have h:((xs.length:Int) !=ys.length)=true:=h
  exact(J2l (by have:=bne_iff_ne.1 h;omega)).symm
 ·have h:((xs.length:Int) !=ys.length)=false:=h
  have:=bne_eq_false_iff_eq.1 h
  omega
 ·obtain⟨k1,k2,k3⟩:=hk
  have hlt:k<xs.length:=by simpa using h1
  rw[Jt (l:=xs) (d:=(Ja,0,0,0,0,0)) hlt,Jt (l:=ys) (d:=(Ja,0,0,0,0,0)) (by omega),eqL] at k3
  refine⟨by(repeat' first|apply And.intro|(first|omega|dsimp only;omega)),fun h2=> ?_,fun h2=> ?_⟩
  ·have h2:(!Yc (xs.getD k (Ja,0,0,0,0,0)) (ys.getD k (Ja,0,0,0,0,0)))=true:=h2
   have h2:Yc (xs.getD k (Ja,0,0,0,0,0)) (ys.getD k (Ja,0,0,0,0,0))=false:=by simpa using h2
   rw[h2] at k3;exact k3
  ·have h2:(!Yc (xs.getD k (Ja,0,0,0,0,0)) (ys.getD k (Ja,0,0,0,0,0)))=false:=h2
   have h2:Yc (xs.getD k (Ja,0,0,0,0,0)) (ys.getD k (Ja,0,0,0,0,0))=true:=by simpa using h2
   rw[h2] at k3
   exact⟨by(repeat' first|apply And.intro|(first|omega|dsimp only;omega)),(k+1:Nat),by(repeat' first|exact rfl|exact⟨⟩|apply And.intro|omega|dsimp only;omega),⟨by omega,k2,k3⟩,by omega⟩
 ·obtain⟨k1,k2,k3⟩:=hk
  have hlt:¬k<xs.length:=by simpa using h1
  rw[List.drop_eq_nil_of_le (by omega),List.drop_eq_nil_of_le (by omega)] at k3
  exact k3
abbrev K73:=K3c.add K6k
end Go.Proofs.YtcibbcfiemeoiaaGreatDoor

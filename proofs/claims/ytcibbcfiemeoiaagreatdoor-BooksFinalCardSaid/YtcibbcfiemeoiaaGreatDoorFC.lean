/- Contracts of the functions that the law reaches: part of the proof. -/
import Derived.Test.YtcibbcfiemeoiaaGreatDoorFB
set_option linter.unusedSimpArgs false
set_option linter.unusedVariables false
set_option maxRecDepth 20000
namespace Go.Proofs.YtcibbcfiemeoiaaGreatDoor
open Go.Sx
set_option maxHeartbeats 20000000
def avL (st:Int):List Spn→Int×Int→Int×Int
 |[],a=>a
 |s::l,(n,last)=>avL st l (n-max 0 (min s.2 st-max s.1 last),max last (min s.2 st))
theorem J6f {st:Int} {a b:Spn} {l:List Spn} {p:Int×Int} (h:a.1=b.1):avL st (a::b::l) p=avL st (b::a::l) p:=by
 obtain⟨n,last⟩:=p
 simp only[avL]
 congr 1
 refine Prod.ext ?_ ?_<;>dsimp only<;>omega
theorem Jp7 {st:Int} {x:Spn} {bs:List Spn}:∀{us:List Spn} {p:Int×Int},(∀y∈us,y.1=x.1)→avL st (us++x::bs) p=avL st (x::(us++bs)) p
 |[],_,_=>rfl
 | y :: us, (n, last), h => by
  have h1:=Jp7 (st:=st) (x:=x) (bs:=bs) (us:=us) (p:=(n-max 0 (min y.2 st-max y.1 last),max last (min y.2 st))) fun z hz=>h z (List.mem_cons_of_mem _ hz)
  have e:avL st (y::(us++x::bs)) (n,last)=avL st (y::x::(us++bs)) (n,last):=by
   simp only[avL] at h1⊢
   exact h1
  rw[List.cons_append,e,J6f (h y (List.mem_cons_self ..)),List.cons_append]
theorem Jwz {st:Int}:∀{xs ys:List Spn} {p:Int×Int},ys.Perm xs→(xs.Pairwise fun a b=>a.1≤b.1)→(ys.Pairwise fun a b=>a.1≤b.1)→avL st ys p=avL st xs p
 |[],ys,p,h,_,_=>by rw[List.Perm.eq_nil h]
 | x :: xs, ys, (n, last), h, h1, h2 => by
  have hx:x∈ys:=h.mem_iff.2 (List.mem_cons_self ..)
  obtain⟨us,bs,rfl⟩:=List.append_of_mem hx
  have h1:=List.pairwise_cons.1 h1
  have h2':=List.pairwise_append.1 h2
  have hk:∀y∈us,y.1=x.1:=fun y hy=>by
   have a1:=h2'.2.2 y hy x (List.mem_cons_self ..)
   have:y∈x::xs:=h.mem_iff.1 (List.mem_append_left _ hy)
   rcases List.mem_cons.1 this with rfl|hm
   ·rfl
   ·have:=h1.1 y hm
    omega
  rw[Jp7 hk]
  have hp:(us++bs).Perm xs:=((List.perm_middle (a:=x) (l₁:=us) (l₂:=bs)).symm.trans h).cons_inv
  have hs:(us++bs).Pairwise fun a b=>a.1≤b.1:=List.Pairwise.sublist (List.Sublist.append (List.Sublist.refl _) (List.sublist_cons_self ..)) h2
  show avL st (us++bs) _=avL st xs _
  exact Jwz hp h1.2 hs
def J5c (x:Spn):List Spn→List Spn
 |[]=>[x]
 |y::r=>if x.1≤y.1 then x::y::r else y::J5c x r
def Jzj:List Spn→List Spn
 |[]=>[]
 |x::r=>J5c x (Jzj r)
theorem Je8 (x:Spn):∀l,(J5c x l).Perm (x::l)
 |[]=> .refl _
 |y::r=>by
  simp only[J5c]
  split
  ·exact .refl _
  ·exact((Je8 x r).cons y).trans (.swap x y r)
theorem Jg5:∀l,(Jzj l).Perm l
 |[]=> .refl _
 |x::r=>(Je8 x _).trans ((Jg5 r).cons x)
theorem Je7 {x:Spn}:∀{l:List Spn},(l.Pairwise fun a b=>a.1≤b.1)→(J5c x l).Pairwise fun a b=>a.1≤b.1
 |[],_=>by simp[J5c]
 | y :: r, h => by
  have h0:=List.pairwise_cons.1 h
  simp only[J5c]
  split
  ·rename_i hlt
   refine List.pairwise_cons.2 ⟨fun z hz=> ?_,h⟩
   rcases List.mem_cons.1 hz with rfl|hz
   ·exact hlt
   ·exact Int.le_trans hlt (h0.1 z hz)
  ·rename_i hlt
   refine List.pairwise_cons.2 ⟨fun z hz=> ?_,Je7 h0.2⟩
   rcases List.mem_cons.1 ((Je8 x r).mem_iff.1 hz) with rfl|hz
   ·omega
   ·exact h0.1 z hz
theorem Jcj:∀{l:List Spn},(Jzj l).Pairwise fun a b=>a.1≤b.1
 |[]=> .nil
 |x::r=>Je7 Jcj
def Jlc (X:List Out) (s:ByteArray):List Spn:=(X.filter fun x=>x.2.1.toList==s.toList).map fun x=>x.2.2.1
def avN (st:Int) (X:List Out) (s:ByteArray):Int:=(avL st (Jzj (Jlc X s)) (st,0)).1
def avE (l:List Ev) (s:ByteArray):Int:=Jh [opE l [s],bif (Ji l).2.1==0 then 6 else 0]
def avP (l:List Ev) (s:ByteArray):Int×Int:=if avE l s=0 then J20 (avN (Ji l).2.1 (Ji l).2.2.2.2.2.1 s) (Ji l).2.1 else(0,0)
def Kr3:Con:={args:=[.val false (.list 67 sEv),aS],ress:=[(true,Hx),I],owns:=[],pre:=fun(l,_)=>[lOk l],spec:=fun(l,s,_)=>(avP l s,avE l s,())}
abbrev Ksb (l:List Ev) (s:ByteArray):Ann:={X:=Nat×Int×Int×List Spn,σ:=fun(k,n,last,ys)=>⟨14,[(4, .one (.ptr 2 0)),(6, .one (.ptr 9 0)),(9, .one (.int .i64 n)),(11, .one (.int .i64 last)),(43, .one (.sl 13)),(44, .one (.int .i64 ys.length)),(45, .one (.int .i64 k))],[(2, .box 54 [.int .i64 0, .int .i64 0]),(9, .box 105 [.int .i64 (Ji l).1, .int .i64 (Ji l).2.1, .sl 4, .sl 5, .sl 6, .sl 7, .sl 8]),(4, .imm 127 Fd (Ji l).2.2.1),(5, .imm 130 Lf (Ji l).2.2.2.1),(6, .imm 155 Jah (Ji l).2.2.2.2.1),(7, .imm 188 Zg (Ji l).2.2.2.2.2.1),(8, .imm 235 Hm (Ji l).2.2.2.2.2.2),(13, .own 117 Hx ys)]⟩,inv:=fun(k,n,last,ys)=>k≤ys.length∧J4p (Jlc (Ji l).2.2.2.2.2.1 s) ys∧(0≤last∧last≤(Ji l).2.1)∧((Ji l).2.1-last≤n∧n≤(Ji l).2.1)∧avL (Ji l).2.1 (ys.drop k) (n,last)=avL (Ji l).2.1 ys ((Ji l).2.1,0),mu:=fun(k,_,_,ys)=>ys.length-k}
def K07 (a:Nat×Int×Int×List Spn) (b:List Ev):=min (List.getD a.2.2.2 a.1 (0,0)).2 (Ji b).2.1
def K0b (a:List Ev) (b:Bt):=Jh [opE a [b],bif (Ji a).2.1==0 then 6 else 0]
def Kjo (a:Bt) (b:List Ev):=List.filter (fun(x:Out)=>List.beq (ByteArray.toList x.2.1) (ByteArray.toList a)) (Ji b).2.2.2.2.2.1
def Kwv (a:Bt) (b:List Ev):=List.map (fun(x:Out)=>x.2.2.1) (Kjo a b)
def Kwk (a:Nat×Int×Int×List Spn) (b:List Ev):=K07 a b-max (List.getD a.2.2.2 a.1 (0,0)).1 a.2.2.1
def Kvi (a:Nat×Int×Int×List Spn) (b:List Ev):=a.2.1-max 0 (Kwk a b)
def Kut (a:Nat×Int×Int×List (Int×Int)) (b:List Ev) (c:Bt):=a.1≤List.length a.2.2.2∧J4p (Jlc (Ji b).2.2.2.2.2.1 c) a.2.2.2∧(0≤a.2.2.1∧a.2.2.1≤(Ji b).2.1)∧((Ji b).2.1-a.2.2.1≤a.2.1∧a.2.1≤(Ji b).2.1)∧avL (Ji b).2.1 (List.drop a.1 a.2.2.2) (a.2.1,a.2.2.1)=avL (Ji b).2.1 a.2.2.2 ((Ji b).2.1,0)
theorem K5t:Ok Tryz.prog 27 Kr3:=Jyd K2z Tryz.f27 (Uy (l:=([]:List (Nat×Func))) (by simp)) (fun xx=>X8 (Ksb xx.1 xx.2.1)) (fun xx=>fun _=>na ()) fun xx=>by
 obtain⟨(l:List Ev),(s:ByteArray),_⟩:=xx
 refine(by kernel_rfl:(lOk l→(lOk l∧1≤1000000)∧2≤1000000∧Br (K0b l s !=0) (Sf true ((0,0)=avP l s∧K0b l s=avE l s)) ((List.length (Ji l).2.2.2.2.2.1≤1000000∧(∀(x:Out),x∈(Ji l).2.2.2.2.2.1→True)∧List.length (Kjo s l)≤1000000∧∀(x:Out),x∈Kjo s l→True)∧Kha (Kwv s l)∧∀(ys:List (Int×Int)),J4p (Kwv s l) ys→∃(x:Nat×Int×Int×List (Int×Int)),((Ji l).2.1=x.2.1∧0=x.2.2.1∧Ln ys=Ln x.2.2.2∧0=Nc x.1∧Si 0 (Si 0 ((Ji l).1=(Ji l).1∧(Ji l).2.1=(Ji l).2.1∧Jxr l∧Jxq l∧Jxp l∧Jxn l∧Jxo l∧ys=x.2.2.2)))∧Kut x l s∧∀(x:Nat×Int×Int×List Spn),x.1≤List.length x.2.2.2∧J4p (Jlc (Ji l).2.2.2.2.2.1 s) x.2.2.2∧(0≤x.2.2.1∧x.2.2.1≤(Ji l).2.1)∧((Ji l).2.1-x.2.2.1≤x.2.1∧x.2.1≤(Ji l).2.1)∧avL (Ji l).2.1 (List.drop x.1 x.2.2.2) (x.2.1,x.2.2.1)=avL (Ji l).2.1 x.2.2.2 ((Ji l).2.1,0)→Br (decide (Nc x.1<Ln x.2.2.2)) (Tw (Bd (Nc x.1) (Ln x.2.2.2))∧(Iw (Kwk x l)∧Iw (Kvi x l))∧Iw (Nc x.1+1)∧∃(y:Nat×Int×Int×List (Int×Int)),(Kvi x l=y.2.1∧max x.2.2.1 (K07 x l)=y.2.2.1∧Ln x.2.2.2=Ln y.2.2.2∧Nc x.1+1=Nc y.1∧Si 0 (Si 0 (Si (Ji l).1 (Si (Ji l).2.1 (Jxr l∧Jxq l∧Jxp l∧Jxn l∧Jxo l∧x.2.2.2=y.2.2.2)))))∧Kut y l s∧List.length y.2.2.2-y.1<List.length x.2.2.2-x.1) (((0≤x.2.1∧x.2.1≤1000000000000)∧1≤(Ji l).2.1∧(Ji l).2.1≤1000000000000)∧Sf true (E2 (J20 x.2.1 (Ji l).2.1)=avP l s∧0=avE l s))))=_).mp ?_
 delta Jxr Jxq Jxp Jxo Jxn K07 K0b Kjo Kwv Kwk Kvi Kut Br Iw Bd Tw Sf Si Ln Nc E2
 intro hl
 have hr:=Zj (l:=l)
 have hz:Jlc (Ji l).2.2.2.2.2.1 s=List.map (fun x=>x.2.2.1) (List.filter (fun x=>x.2.1.toList.beq s.toList) (Ji l).2.2.2.2.2.1):=rfl
 rw[←hz]
 have nX:(Ji l).2.2.2.2.2.1.length≤16:=hr.nX
 have hX:∀x∈Jlc (Ji l).2.2.2.2.2.1 s,Jme x:=fun x hx=>by
  obtain⟨y,hy,rfl⟩:=List.mem_map.1 hx
  exact(hr.out y (List.mem_filter.1 hy).1).span
 have hlen:(Jlc (Ji l).2.2.2.2.2.1 s).length≤16:=by
  unfold Jlc
  rw[List.length_map]
  exact Nat.le_trans (List.length_filter_le _ _) nX
 have hst:=hr.st
 have htk:=hr.tk
 refine⟨⟨hl,by decide⟩,by decide,fun h=> ?_,fun h=>⟨⟨Nat.le_trans nX (by decide),fun _ _=>trivial,Nat.le_trans (List.length_filter_le _ _) (Nat.le_trans nX (by decide)),fun _ _=>trivial⟩,⟨fun x hx=> ?_,by omega⟩,fun ys hy=>⟨((0:Nat),(Ji l).2.1,0,ys),by(repeat' first|exact rfl|exact⟨⟩|apply And.intro|omega|dsimp only;omega),⟨Nat.zero_le _,hy,by(first|omega|dsimp only;omega),by(first|omega|dsimp only;omega),rfl⟩,fun(x:Nat×Int×Int×List Spn) hk=>⟨fun h1=> ?_,fun h1=> ?_⟩⟩⟩⟩
 ·have h:avE l s≠0:=bne_iff_ne.1 h
  refine⟨rfl, ?_,rfl⟩
  unfold avP;rw[if_neg h]
 ·have:=hX x hx
  have h1:=this.lo
  have h2:=this.mid
  have h3:=this.hi
  omega
 ·obtain⟨k,n,last,ys⟩:=x
  obtain⟨k1,k2,k3,k4,k5⟩:=hk
  have hlt:k<ys.length:=by simpa using h1
  have hx:=hX _ (k2.1.mem_iff.1 (Je (d:=((0:Int),(0:Int))) hlt))
  have x1:=hx.lo
  have x2:=hx.mid
  have x3:=hx.hi
  dsimp only at k1 k2 k3 k4 k5
  rw[Jz (d:=((0:Int),(0:Int))) hlt,avL] at k5
  have hln:ys.length≤16:=by rw[k2.1.length_eq];exact hlen
  dsimp only
  generalize ys.getD k (0,0)=y at x1 x2 x3 k5⊢
  obtain⟨a,b⟩:=y
  dsimp only at x1 x2 x3 k5⊢
  refine⟨by omega,by omega,by omega,(k+1,n-max 0 (min b (Ji l).2.1-max a last),max last (min b (Ji l).2.1),ys),by(repeat' first|exact rfl|exact⟨⟩|apply And.intro|omega|dsimp only;omega),⟨by(first|omega|dsimp only;omega),k2,by(first|omega|dsimp only;omega),by(first|omega|dsimp only;omega),k5⟩,by(first|omega|dsimp only;omega)⟩
 ·obtain⟨k,n,last,ys⟩:=x
  obtain⟨k1,k2,k3,k4,k5⟩:=hk
  have hlt:¬k<ys.length:=by simpa using h1
  dsimp only at k1 k2 k3 k4 k5
  have e:k=ys.length:=by omega
  rw[e,List.drop_length,avL] at k5
  have h:avE l s=0:=bne_eq_false_iff_eq.1 h
  have hs:(Ji l).2.1≠0:=fun h0=>by
   have:=(Zq h).2
   rw[h0] at this
   exact absurd this (by decide)
  have e2:avN (Ji l).2.1 (Ji l).2.2.2.2.2.1 s=n:=by
   unfold avN
   rw[Jwz (k2.1.trans (Jg5 _).symm) Jcj k2.2] at k5
   rw[←k5]
  refine⟨⟨by(first|omega|dsimp only;omega),by omega⟩,rfl, ?_,h.symm⟩
  unfold avP
  rw[if_pos h,e2]
abbrev K2y:=K2z.add K5t
def J0t:Con:={args:=[aI],ress:=[tS],owns:=[],pre:=fun(n,_)=>[-(10^17:Int)<n,n<10^18],spec:=fun(n,_)=>(X2 n,())}
def Klg:=10^18
def K03 (a:Int):=a<Klg
def Kj8:= -10^17
def Kzq (a:Int):=Kj8<a
theorem Kqt:Ok Tryz.prog 117 J0t:=okW K2y Tryz.f117 na fun xx=>by
 obtain⟨(n:Int),_⟩:=xx
 refine(by kernel_rfl:(Kzq n→K03 n→(17≤18∧Kzq n∧K03 n)∧X2 n=X2 n)=_).mp ?_
 delta Klg K03 Kj8 Kzq
 intro h1 h2
 exact⟨⟨by decide,h1,h2⟩,rfl⟩
abbrev K2x:=K2y.add Kqt
def Jul (s:ByteArray) (j:Nat):ByteArray:=bs (List.replicate j 48++Lib.itoa (Jgh s))
abbrev J1b (s:ByteArray):Nat→Option Ann:=fun id=>if id=0 then some {X:=Nat×Int,σ:=fun(k,x)=>⟨0,[(0, .one (.str s)),(3, .one (.int .i64 x)),(4, .one (.int .i64 k))],[]⟩,inv:=fun(k,x)=>k≤s.size∧(0≤x∧x<9999721)∧Jst (s.data.toList.drop k) x=Jgh s,mu:=fun(k,_)=>s.size-k}
 else if id=2 then some {X:=Nat,σ:=fun j=>⟨0,[(5, .one (.str (Jul s j)))],[]⟩,inv:=fun j=>j+(Lib.itoa (Jgh s)).length≤7,mu:=fun j=>7-j} else none
def Kmi (a:Nat) (b:Bt):=a+List.length (Lib.itoa (Jgh b))≤7
theorem K5d:Ok Tryz.prog 67 K2e:=okW K2x Tryz.f67 (fun xx=>J1b xx.1) fun xx=>by
 obtain⟨(s:ByteArray),_⟩:=xx
 refine(by kernel_rfl:(ByteArray.size s≤1000000→∃(x:Nat×Int),Sf s (1=x.2∧0=Nc x.1)∧J65 x s∧∀(x:Nat×Int),J65 x s→Br (decide (Nc x.1<Nc (ByteArray.size s))) (Khv x s∧Z34 x∧∃(y:Nat×Int),Sf s (Kj4 x s y∧Jsk x y)∧Kis y s x) ((Kj8<x.2∧x.2<Klg)∧∃(x_1:Nat),X2 x.2=Jul s x_1∧Kmi x_1 s∧∀(x:Nat),Kmi x s→Br (decide (Nc (ByteArray.size (Jul s x))<7)) (Nc (1+ByteArray.size (Jul s x))≤9223372036854775807∧∃(y:Nat),ByteArray.mk (Array.mk (48::([]++(Jul s x).data.toList)))=Jul s y∧Kmi y s∧7-y<7-x) (Jul s x=Jor s)))=_).mp ?_
 delta Z13 Z34 Jsk Kmi Klg Kle Kj8 Kj4 J65 Kis Khv Br Iw Bd Sf Nc
 intro hs
 refine⟨((0:Nat),(1:Int)),by(repeat' first|exact rfl|exact⟨⟩|apply And.intro|omega|dsimp only;omega),⟨Nat.zero_le _,by(first|omega|dsimp only;omega),rfl⟩,fun(y:Nat×Int) hk=>⟨fun h=> ?_,fun h=> ?_⟩⟩
 ·obtain⟨k,x⟩:=y
  have hlt:k<s.size:=by simpa using h
  obtain⟨k1,k2,k3⟩:=hk
  dsimp only at k1 k2
  rw[Dn hlt,Jst] at k3
  have hb:=Jwo s k
  refine⟨by(repeat' first|apply And.intro|(first|omega|dsimp only;omega)),by(repeat' first|apply And.intro|(first|omega|dsimp only;omega)),(k+1,(341*x+((s.data.toList.getD k 0).toNat:Int)).tmod 9999721),by(repeat' first|exact rfl|exact⟨⟩|apply And.intro|omega|dsimp only;omega),⟨by(first|omega|dsimp only;omega),⟨Int.tmod_nonneg _ (by omega),Int.tmod_lt_of_pos _ (by decide)⟩,k3⟩,by(first|omega|dsimp only;omega)⟩
 ·obtain⟨k,x⟩:=y
  have hlt:¬k<s.size:=by simpa using h
  obtain⟨k1,k2,k3⟩:=hk
  have e:k=s.size:=by omega
  rw[e,List.drop_eq_nil_of_le (by simp),Jst] at k3
  have k3:x=Jgh s:=k3
  have hl:=Jij s
  dsimp only
  rw[k3]
  have hb:=Jm2 s
  have hsz:∀j,(Jul s j).size=j+(Lib.itoa (Jgh s)).length:=fun j=>by
   unfold Jul
   rw[Xg,List.length_append,List.length_replicate]
  refine⟨⟨by omega,by omega⟩,(0:Nat),rfl,by omega,fun(j:Nat) hj=>⟨fun h=> ?_,fun h=> ?_⟩⟩
  ·have h:((Jul s j).size:Int)<7:=of_decide_eq_true h
   have hz:=hsz j
   refine⟨by omega,j+1,rfl,by omega,by omega⟩
  ·have h:¬((Jul s j).size:Int)<7:=of_decide_eq_false h
   have hz:=hsz j
   have:j=7-(Lib.itoa (Jgh s)).length:=by omega
   rw[this];rfl
abbrev K2w:=K2x.add K5d
theorem Jlq:∀{l:List (List UInt8)} {b:Nat},(∀x∈l,x.length≤b)→(Lib.join l []).length≤b*l.length
 |[],_,_=>by simp[Lib.join,List.intercalate]
 |[x],b,h=>by
  have:=h x (List.mem_cons_self ..)
  simpa[Lib.join,List.intercalate,List.intersperse] using this
 |x::y::r,b,h=>by
  have ih:=Jlq (l:=y::r) fun z hz=>h z (List.mem_cons_of_mem _ hz)
  have hx:=h x (List.mem_cons_self ..)
  have e:Lib.join (x::y::r) []=x++Lib.join (y::r) []:=by simp[Lib.join,List.intercalate,List.intersperse]
  rw[e,List.length_append,List.length_cons,Nat.mul_add]
  omega
def J55:Con:={args:=[.ref 212 Jit],ress:=[(false, .list 67 sEv)],owns:=[],pre:=fun(h,_)=>[h.1.length≤1000,∀e∈h.1,Jb5 e],spec:=fun(h,_)=>(h.1,())}
theorem K5n:Ok Tryz.prog 41 J55:=okW K2w Tryz.f41 na fun xx=>by
 obtain⟨⟨(E:List Ev),(C:List Ev),(G:List Reg)⟩,_⟩:=xx
 refine(by kernel_rfl:(List.length E≤1000→(∀(e:Ev),J1u E e→Jb5 e)→Br false ([]=E) ((Z38 E∧∀(x:Ev),J1u E x→Klp x)∧List.map (fun(x:Ev)=>x) E=E))=_).mp ?_
 delta Z38 J1u Klp Br
 intro h1 h2
 refine⟨fun h=>(nomatch h),fun _=>⟨⟨by omega,fun x hx=>⟨(h2 x hx).1,(h2 x hx).2.1⟩⟩,List.map_id' _⟩⟩
abbrev K2v:=K2w.add K5n
def Kq7 (l:List Ev):ByteArray:=Vq (l.map J4r) Ja
def K6g:Con:={args:=[.ref 212 Jit],ress:=[tS],owns:=[],pre:=fun(h,_)=>[h.1.length≤1000,∀e∈h.1,L3 e],spec:=fun(h,_)=>(Kq7 h.1,())}
def Kmp (a:List Ev):=List.map (fun(x:Ev)=>J4r x) a
def K1m (a:List Ev):=∀(x:Ev),J1u a x→L3 x
theorem K5m:Ok Tryz.prog 42 K6g:=okW K2v Tryz.f42 na fun xx=>by
 obtain⟨⟨(E:List Ev),(C:List Ev),(G:List Reg)⟩,_⟩:=xx
 refine(by kernel_rfl:(List.length E≤1000→K1m E→Br false (B0=Kq7 E) ((Z38 E∧K1m E∧List.length (Kmp E)≤1000000∧List.length (Lib.join (List.map (fun(x:ByteArray)=>Z13 x) (Kmp E)) [])≤140737488355328)∧Vq (Kmp E) B0=Kq7 E))=_).mp ?_
 delta Z13 Z38 Kmp J1u K1m Br B0
 intro h1 h2
 refine⟨fun h=>(nomatch h),fun _=>⟨⟨by omega,h2,by rw[List.length_map];omega, ?_⟩,rfl⟩⟩
 refine Nat.le_trans (Jlq (b:=2000000) fun z hz=> ?_) ?_
 ·rw[List.map_map] at hz
  obtain⟨e,he,rfl⟩:=List.mem_map.1 hz
  have:=Juf (h2 e he)
  have:=Jp4 (h2 e he)
  show(J4r e).size≤2000000
  omega
 ·rw[List.length_map,List.length_map];omega
abbrev K7h:=K2v.add K5m
def Jrg:List Say:=[(⟨⟨[115,116,97,116,105,111,110,32,97,32,48,32,49,48]⟩⟩,⟨⟨[100,111,110,101,32,49]⟩⟩,0),(⟨⟨[115,116,97,116,105,111,110,32,98,32,48,32,56]⟩⟩,⟨⟨[100,111,110,101,32,50]⟩⟩,0),(⟨⟨[112,114,105,99,101,32,97,32,48,32,53]⟩⟩,⟨⟨[100,111,110,101,32,51]⟩⟩,0),(⟨⟨[111,114,100,101,114,32,111,49,32,97,32,98,32,49,32,50,32,53,32,54]⟩⟩,⟨⟨[100,111,110,101,32,52]⟩⟩,0),(⟨⟨[111,114,100,101,114,32,111,50,32,98,32,97,32,49,32,50,32,53,32,51]⟩⟩,⟨⟨[]⟩⟩,4),(⟨⟨[111,117,116,97,103,101,32,121,32,98,32,49,32,51,32,52,32,53]⟩⟩,⟨⟨[]⟩⟩,24),(⟨⟨[111,117,116,97,103,101,32,120,32,98,32,49,32,53,32,55,32,48]⟩⟩,⟨⟨[100,111,110,101,32,53]⟩⟩,0),(⟨⟨[112,101,114,109,105,116,32,112,32,120,32,53]⟩⟩,⟨⟨[100,111,110,101,32,54]⟩⟩,0),(⟨⟨[109,105,115,115,105,110,103]⟩⟩,⟨⟨[111,49,32,50,32,111,49,32,51,32,111,49,32,52]⟩⟩,0),(⟨⟨[111,117,116,97,103,101,115]⟩⟩,⟨⟨[120]⟩⟩,0),(⟨⟨[116,114,105,112,32,111,49,32,53]⟩⟩,⟨⟨[]⟩⟩,23),(⟨⟨[109,101,116,101,114,32,111,49,32,53,32,50,32,54,32,54]⟩⟩,⟨⟨[100,111,110,101,32,55]⟩⟩,0),(⟨⟨[109,101,116,101,114,32,111,49,32,53,32,51,32,54,32,53]⟩⟩,⟨⟨[100,111,110,101,32,56]⟩⟩,0),(⟨⟨[115,101,116,116,108,101,32,53,32,53]⟩⟩,⟨⟨[]⟩⟩,32),(⟨⟨[109,101,116,101,114,32,111,49,32,53,32,52,32,52,32,51]⟩⟩,⟨⟨[100,111,110,101,32,57]⟩⟩,0),(⟨⟨[109,105,115,115,105,110,103]⟩⟩,⟨⟨[110,111,110,101]⟩⟩,0),(⟨⟨[115,101,116,116,108,101,32,53,32,54]⟩⟩,⟨⟨[]⟩⟩,14),(⟨⟨[115,101,116,116,108,101,32,53,32,53]⟩⟩,⟨⟨[100,111,110,101,32,49,48]⟩⟩,0),(⟨⟨[117,110,100,111]⟩⟩,⟨⟨[]⟩⟩,21),(⟨⟨[98,105,108,108,32,111,49]⟩⟩,⟨⟨[51,32,49,54,32,49,52,32,55,48,32,49,50]⟩⟩,0),(⟨⟨[98,97,108,97,110,99,101,32,98]⟩⟩,⟨⟨[45,53,56]⟩⟩,0),(⟨⟨[114,97,116,101,32,97]⟩⟩,⟨⟨[53]⟩⟩,0),(⟨⟨[114,101,115,116,111,114,101,32,120,32,54]⟩⟩,⟨⟨[]⟩⟩,32),(⟨⟨[112,101,114,109,105,116,115]⟩⟩,⟨⟨[112]⟩⟩,0),(⟨⟨[114,101,116,117,114,110,32,112,32,54]⟩⟩,⟨⟨[100,111,110,101,32,49,49]⟩⟩,0),(⟨⟨[114,101,115,116,111,114,101,32,120,32,54]⟩⟩,⟨⟨[100,111,110,101,32,49,50]⟩⟩,0),(⟨⟨[115,101,116,116,108,101,32,56,32,56]⟩⟩,⟨⟨[100,111,110,101,32,49,51]⟩⟩,0),(⟨⟨[115,101,116,116,108,101,100]⟩⟩,⟨⟨[56]⟩⟩,0)]
def Fk:List Ev:=[(1,⟨⟨[115,116,97,116,105,111,110]⟩⟩,[⟨⟨[97]⟩⟩],[0,10],⟨⟨[]⟩⟩),(2,⟨⟨[115,116,97,116,105,111,110]⟩⟩,[⟨⟨[98]⟩⟩],[0,8],⟨⟨[]⟩⟩),(3,⟨⟨[112,114,105,99,101]⟩⟩,[⟨⟨[97]⟩⟩],[0,5],⟨⟨[]⟩⟩),(4,⟨⟨[111,114,100,101,114]⟩⟩,[⟨⟨[111,49]⟩⟩,⟨⟨[97]⟩⟩,⟨⟨[98]⟩⟩],[1,2,5,6],⟨⟨[]⟩⟩),(5,⟨⟨[111,117,116,97,103,101]⟩⟩,[⟨⟨[120]⟩⟩,⟨⟨[98]⟩⟩],[1,5,7,0],⟨⟨[]⟩⟩),(6,⟨⟨[112,101,114,109,105,116]⟩⟩,[⟨⟨[112]⟩⟩,⟨⟨[120]⟩⟩],[5],⟨⟨[]⟩⟩),(7,⟨⟨[109,101,116,101,114]⟩⟩,[⟨⟨[111,49]⟩⟩],[5,2,6,6],⟨⟨[]⟩⟩),(8,⟨⟨[109,101,116,101,114]⟩⟩,[⟨⟨[111,49]⟩⟩],[5,3,6,5],⟨⟨[]⟩⟩),(9,⟨⟨[109,101,116,101,114]⟩⟩,[⟨⟨[111,49]⟩⟩],[5,4,4,3],⟨⟨[]⟩⟩),(10,⟨⟨[115,101,116,116,108,101]⟩⟩,[],[5,5],⟨⟨[]⟩⟩),(11,⟨⟨[114,101,116,117,114,110]⟩⟩,[⟨⟨[112]⟩⟩],[6],⟨⟨[]⟩⟩),(12,⟨⟨[114,101,115,116,111,114,101]⟩⟩,[⟨⟨[120]⟩⟩],[6],⟨⟨[]⟩⟩),(13,⟨⟨[115,101,116,116,108,101]⟩⟩,[],[8,8],⟨⟨[]⟩⟩)]
def K2b:List Ev:=(Jdw V7 Jrg).1.2.1
def K2a:List Reg:=(Jdw V7 Jrg).1.2.2
theorem Jw5:Jdw V7 Jrg=((Fk,K2b,K2a),true):=by kernel_rfl
def K6o:Xv:={T? :=some 212,s:=Jit,args:=[.val false (.list 147 Knn)],ress:=[Bo],pre:=fun h (l,_)=>[h=V7,l=Jrg],spec:=fun _ _=>(true,()),post:=fun _ _=>(Fk,K2b,K2a)}
theorem Jt0:Jrg.length≤1000000∧∀x∈Jrg,x.1.size≤1000000:=by
 refine⟨by decide,fun x hx=> ?_⟩
 have:(Jrg.all fun x=>decide (x.1.size≤1000000))=true:=by kernel_rfl
 exact of_decide_eq_true (List.all_eq_true.1 this x hx)
theorem Jzw {f:FuncId} {c:Xv} {p:c.s.T→ATup c.args→List Prop} {sp:c.s.T→ATup c.args→Tup c.ress} {q:c.s.T→ATup c.args→c.s.T} (h1:OkO Tryz.prog f c) (h:∀x y,Ur (p x y)→Ur (c.pre x y)∧sp x y=c.spec x y∧q x y=c.post x y):OkO Tryz.prog f {c with pre:=p,spec:=sp,post:=q}:=
 ⟨h1.1,fun x y M R B w b T cells vals vs hB hMR hg hw hBb hMb hRb hT ho hv hpre ha=>by
  obtain⟨hp,e1,e2⟩:=h x y hpre
  have H:=h1.2 x y M R B w b T cells vals vs hB hMR hg hw hBb hMb hRb hT ho hv hp ha
  dsimp only
  rw[e1,e2]
  exact H⟩
theorem Knq:OkO Tryz.prog 66 J84:=Ue mixed Kmt.ok (by kernel_rfl) (by kernel_rfl) (Uy (l:=([]:List (Nat×Func))) (by simp)) (fun xx yy=>X8 (Jxb (xx.1,xx.2.1,xx.2.2) yy.1)) (fun xx yy=>fun _=>na ()) fun T xx yy hT=>by obtain rfl:=hT _ rfl;exact K12 xx.1 xx.2.1 xx.2.2 yy.1
theorem Knt:Ok Tryz.prog 66 (Xv.con K6o):=X0 (Jzw (c:=J84) Knq fun x y hp=>by
 obtain⟨rfl,e⟩:=hp
 obtain⟨l,_⟩:=y
 have e:l=Jrg:=e
 subst e
 exact⟨⟨Xk,J5f,Jt0.1,Jt0.2⟩,by rw[show J84.spec V7 (Jrg,())=((Jdw V7 Jrg).2,()) from rfl,Jw5],by rw[show J84.post V7 (Jrg,())=(Jdw V7 Jrg).1 from rfl,Jw5]⟩)
abbrev K1w:=K7h.add Knt
theorem Jpw:Fk.length=13:=by kernel_rfl
theorem Jnu:∀e∈Fk,Jb5 e:=fun e he=>by
 have:(Fk.all fun e=>decide (e.2.2.1.length≤1000000)&&decide (e.2.2.2.1.length≤1000000)&&e.2.2.1.all fun s=>decide (s.size≤1000000))=true:=by kernel_rfl
 have h:=List.all_eq_true.1 this e he
 simp only[Bool.and_eq_true] at h
 exact⟨of_decide_eq_true h.1.1,of_decide_eq_true h.1.2,fun s hs=>of_decide_eq_true (List.all_eq_true.1 h.2 s hs)⟩
theorem J5l:∀e∈Fk,Jc e=0:=fun e he=>by
 have:(Fk.all fun e=>Jc e==0)=true:=by kernel_rfl
 exact eq_of_beq (List.all_eq_true.1 this e he)
theorem Jnv (n:Nat):lOk (Fk.take n):=⟨by have:=Jpw;rw[List.length_take];omega,fun e he=>Jnu e (List.mem_of_mem_take he)⟩
def J3c:Con:={args:=[],ress:=[Bo],owns:=[],pre:=fun _=>[],spec:=fun _=>(true,())}
def Z89:=[(32:UInt8),(54:UInt8)]
def Z96:=[(32:UInt8),(51:UInt8)]
def Z97:=[(32:UInt8),(53:UInt8)]
def Z98:=[(32:UInt8),(56:UInt8)]
def Kgu:=ByteArray.mk (Array.mk [98])
def Kmq:=ByteArray.mk (Array.mk [97])
def K1v:=32::53::Z89
def Kx5:=ByteArray.mk (Array.mk (115::101::116::116::108::101::32::53::Z97))
def Kxo:=ByteArray.mk (Array.mk (114::101::115::116::111::114::101::32::120::Z89))
def Kw1:=Jgk (List.take 6 Fk) Kmq 3+Jgk (List.take 6 Fk) Kgu 5
def Ku3:=Kw1+Jmb Fk Kmq Kgu
def Kuz:=Ku3+Dj Fk 4
def Kuv:=Kuz+(Jbt Fk).2
def Kt9:=Kuv+avE (List.take 10 Fk) Kgu
def Kt0:=Kt9+avE Fk Kgu
theorem K4m:wpFG Tryz.prog K1w.g (na ()) (fun _=>na ()) (Sx.look ([(65,Tryz.f65)]:List (Nat×Func))) Tryz.f14 J3c ():=by
 refine(by kernel_rfl:((([],[],[])=V7∧[(ByteArray.mk (Array.mk [115,116,97,116,105,111,110,32,97,32,48,32,49,48]),ByteArray.mk (Array.mk [100,111,110,101,32,49]),0),(ByteArray.mk (Array.mk (115::116::97::116::105::111::110::32::98::32::48::Z98)),ByteArray.mk (Array.mk [100,111,110,101,32,50]),0),(ByteArray.mk (Array.mk (112::114::105::99::101::32::97::32::48::Z97)),ByteArray.mk (Array.mk (100::111::110::101::Z96)),0),(ByteArray.mk (Array.mk (111::114::100::101::114::32::111::49::32::97::32::98::32::49::32::50::K1v)),ByteArray.mk (Array.mk [100,111,110,101,32,52]),0),(ByteArray.mk (Array.mk (111::114::100::101::114::32::111::50::32::98::32::97::32::49::32::50::32::53::Z96)),B0,4),(ByteArray.mk (Array.mk (111::117::116::97::103::101::32::121::32::98::32::49::32::51::32::52::Z97)),B0,24),(ByteArray.mk (Array.mk [111,117,116,97,103,101,32,120,32,98,32,49,32,53,32,55,32,48]),ByteArray.mk (Array.mk (100::111::110::101::Z97)),0),(ByteArray.mk (Array.mk (112::101::114::109::105::116::32::112::32::120::Z97)),ByteArray.mk (Array.mk (100::111::110::101::Z89)),0),(Uc,ByteArray.mk (Array.mk [111,49,32,50,32,111,49,32,51,32,111,49,32,52]),0),(Uj,ByteArray.mk (Array.mk [120]),0),(ByteArray.mk (Array.mk (116::114::105::112::32::111::49::Z97)),B0,23),(ByteArray.mk (Array.mk (109::101::116::101::114::32::111::49::32::53::32::50::32::54::Z89)),ByteArray.mk (Array.mk [100,111,110,101,32,55]),0),(ByteArray.mk (Array.mk (109::101::116::101::114::32::111::49::32::53::32::51::32::54::Z97)),ByteArray.mk (Array.mk (100::111::110::101::Z98)),0),(Kx5,B0,32),(ByteArray.mk (Array.mk (109::101::116::101::114::32::111::49::32::53::32::52::32::52::Z96)),ByteArray.mk (Array.mk [100,111,110,101,32,57]),0),(Uc,Jml,0),(ByteArray.mk (Array.mk (115::101::116::116::108::101::K1v)),B0,14),(Kx5,ByteArray.mk (Array.mk [100,111,110,101,32,49,48]),0),(Jp,B0,21),(ByteArray.mk (Array.mk [98,105,108,108,32,111,49]),ByteArray.mk (Array.mk [51,32,49,54,32,49,52,32,55,48,32,49,50]),0),(ByteArray.mk (Array.mk [98,97,108,97,110,99,101,32,98]),ByteArray.mk (Array.mk [45,53,56]),0),(ByteArray.mk (Array.mk [114,97,116,101,32,97]),ByteArray.mk (Array.mk [53]),0),(Kxo,B0,32),(Ui,ByteArray.mk (Array.mk [112]),0),(ByteArray.mk (Array.mk (114::101::116::117::114::110::32::112::Z89)),ByteArray.mk (Array.mk [100,111,110,101,32,49,49]),0),(Kxo,ByteArray.mk (Array.mk [100,111,110,101,32,49,50]),0),(ByteArray.mk (Array.mk (115::101::116::116::108::101::32::56::Z98)),ByteArray.mk (Array.mk [100,111,110,101,32,49,51]),0),(Uh,ByteArray.mk (Array.mk [56]),0)]=Jrg)∧Br false (Sf true (false=true)) ((13≤1000∧∀(e:Ev),e∈Fk→Jb5 e)∧Br false (Sf true (false=true)) (T2 (((0:Int)≤0∧(0:Int)≤6∧(6:Int)≤13)∧lOk (List.take 6 Fk)) (lOk Fk∧T2 (lOk Fk) ((((0:Int)≤0∧(0:Int)≤10∧(10:Int)≤13)∧lOk (List.take 10 Fk))∧T2 (lOk Fk) ((13≤1000∧∀(e:Ev),e∈Fk→L3 e)∧(325:Int)≤9223372036854775807∧(Iw Kw1∧Iw Ku3∧Iw Kuz∧Iw Kuv∧Iw Kt9∧Iw Kt0∧Iw (Kt0+Zb Fk Kmq)∧(true=true→2≤1000000))∧Tw (true=true)))))))=_).mp ?_
 delta Z89 Z96 Z97 Z98 Kgu Kmq K1v Jml Kx5 Kxo Kw1 Ku3 Kuz Kuv Kt9 Kt0 Br Iw T2 Tw Sf B0 Uc Uj Ui Uh Jp
 have ok:lOk Fk:=⟨by rw[Jpw];decide,Jnu⟩
 have z1:Jgk (List.take 6 Fk) {data:={toList:=[97]}} 3=0:=by kernel_rfl
 have z2:Jgk (List.take 6 Fk) {data:={toList:=[98]}} 5=0:=by kernel_rfl
 have z3:Jmb Fk {data:={toList:=[97]}} {data:={toList:=[98]}}=0:=by kernel_rfl
 have z4:Dj Fk 4=0:=by kernel_rfl
 have z5:(Jbt Fk).2=0:=by kernel_rfl
 have z6:avE (List.take 10 Fk) {data:={toList:=[98]}}=0:=by kernel_rfl
 have z7:avE Fk {data:={toList:=[98]}}=0:=by kernel_rfl
 have z8:Zb Fk {data:={toList:=[97]}}=0:=by kernel_rfl
 rw[z1,z2,z3,z4,z5,z6,z7,z8]
 exact⟨⟨rfl,rfl⟩,fun h=>(nomatch h),fun _=>⟨⟨by decide,Jnu⟩,fun h=>(nomatch h),fun _=>⟨⟨by omega,Jnv 6⟩,⟨by omega,Jnv 6⟩,ok,ok,ok,⟨by omega,Jnv 10⟩,ok,ok,⟨by decide,fun e he=>J6e (J5l e he)⟩,by decide,⟨by decide,by decide,by decide,by decide,by decide,by decide,by decide,fun _=>by decide⟩,rfl,rfl⟩⟩⟩
theorem K51:Ok Tryz.prog 14 J3c:=Jev mixed K1w.ok (by kernel_rfl) (by kernel_rfl) (Uy (l:=([(65,Tryz.f65)]:List (Nat×Func))) (List.forall_mem_cons.2 ⟨by kernel_rfl,by simp⟩)) (fun xx=>na ()) (fun xx=>fun _=>na ()) fun xx=>K4m
abbrev K7g:=K1w.add K51
abbrev K7f:=K7g
abbrev K7e:=K7f
abbrev K2u:=K7e
def Jhj (e:Ev):Bool:=bif bif bif decide (40<(e.2.1.size:Int)) then true else decide (6<(e.2.2.1.length:Int)) then true else decide (8<(e.2.2.2.1.length:Int)) then true else decide (200<(e.2.2.2.2.size:Int))
def Xn (e:Ev):Bool:=bif Jhj e then false else e.2.2.1.all fun s=> !decide (40<(s.size:Int))
def Xm (l:List Ev) (n:Int):Bool:=bif decide (n<(l.length:Int)) then false else l.all Xn
def Kbt:Con:={args:=[.val false (.list 67 sEv),aI],ress:=[Bo],owns:=[],pre:=fun(_,n,_)=>[n≤1000000],spec:=fun(l,n,_)=>(Xm l n,())}
abbrev J1c (l:List Ev) (n:Int):Nat→Option Ann:=fun id=>if id=0 then some {X:=Nat,σ:=fun k=>⟨1,[(0, .one (.sl 0)),(5, .one (.int .i64 k))],[(0, .imm 67 sEv l)]⟩,inv:=fun k=>k≤l.length∧(l.drop k).all Xn=l.all Xn,mu:=fun k=>l.length-k}
 else if id=2 then some {X:=Nat×Nat,σ:=fun(k,j)=>⟨1,[(0, .one (.sl 0)),(5, .one (.int .i64 k)),(6, .one (.int .i64 j))],[(0, .imm 67 sEv l)]⟩,inv:=fun(k,j)=>k<l.length∧j≤(l.getD k ev0).2.2.1.length∧(l.getD k ev0).2.2.1.length≤6∧(bif (((l.getD k ev0).2.2.1.drop j).all fun s=> !decide (40<(s.size:Int))) then(l.drop (k+1)).all Xn else false)=l.all Xn,mu:=fun(k,j)=>(l.getD k ev0).2.2.1.length-j,rel:=some fun x0 x=>x0.1=x.1} else none
def Kgn (a:List Ev) (b:Nat×Nat):=List.length (List.getD a b.1 ev0).2.2.1
def Kll (a:Nat) (b:List Ev):=a≤List.length b∧List.all (List.drop a b) Xn=List.all b Xn
def Kli (a:List Ev) (b:Nat):=Ln (J1o a b).1
def K08 (a:List Ev) (b:Nat×Nat):=Ln (List.getD a b.1 D9).2.2.1
def K0d (a:List Ev) (b:Nat):=decide (40<Nc (ByteArray.size (J3p a b)))
def Kvb (a:List Ev) (b:Nat):=bif K0d a b then true else decide (6<Ln (J3q a b).1)
def Kuh (a:List Ev) (b:Nat):=bif Kvb a b then true else decide (8<Kli a b)
def Kuf (a:Nat×Nat) (b:List Ev):=a.1<List.length b∧a.2≤Kgn b a∧Kgn b a≤6∧(bif List.all (List.drop a.2 (List.getD b a.1 ev0).2.2.1) fun(s:ByteArray)=> !decide (40<Nc (ByteArray.size s)) then List.all (List.drop (a.1+1) b) Xn else false)=List.all b Xn
def Kub (a:Nat×Nat) (b:List Ev) (c:Nat×Nat):=Kuf a b∧c.1=a.1
theorem K52:Ok Tryz.prog 13 Kbt:=okW K2u Tryz.f13 (fun xx=>J1c xx.1 xx.2.1) fun xx=>by
 obtain⟨(l:List Ev),(n:Int),_⟩:=xx
 refine(by kernel_rfl:(n≤1000000→Br (decide (n<Ln l)) (false=Xm l n) (∃(x:Nat),(0=Nc x∧l=l)∧Kll x l∧∀(x:Nat),Kll x l→Br (Z78 x l) (T2 (Z8 x l) (T2 (K0d l x=false→Z8 x l) (T2 (Kvb l x=false→Z8 x l) (Tw (Kuh l x=false→Z8 x l))))∧Br (bif Kuh l x then true else decide (200<Nc (ByteArray.size (J1o l x).2))) (false=Xm l n) (∃(x0:Nat×Nat),(Nc x=Nc x0.1∧0=Nc x0.2∧l=l)∧(Kuf x0 l∧x0.1=x0.1)∧∀(x_1:Nat×Nat),Kub x_1 l x0→Tw (Bd (Nc x_1.1) (Ln l))∧Br (decide (Nc x_1.2<K08 l x_1)) (T2 (Bd (Nc x_1.1) (Ln l)) (Tw (Bd (Nc x_1.2) (K08 l x_1)))∧Br (decide (40<Nc (ByteArray.size (List.getD (List.getD l x_1.1 D9).2.2.1 x_1.2 B0)))) (false=Xm l n) (Iw (Nc x_1.2+1)∧∃(y:Nat×Nat),(Nc x_1.1=Nc y.1∧Nc x_1.2+1=Nc y.2∧l=l)∧Kub y l x0∧Kgn l y-y.2<Kgn l x_1-x_1.2)) (Iw (Nc x_1.1+1)∧∃(y:Nat),(Nc x_1.1+1=Nc y∧l=l)∧Kll y l∧List.length l-y<List.length l-x))) (true=Xm l n)))=_).mp ?_
 delta Z8 Z78 Kgn D9 J3s J3q J3p J1o Kll Kli K08 K0d Kvb Kuh Kuf Kub Br Iw Bd T2 Tw Ln Nc B0
 intro hn
 refine⟨fun h=> ?_,fun h=>⟨(0:Nat),by(repeat' first|exact rfl|exact⟨⟩|apply And.intro|omega|dsimp only;omega),⟨Nat.zero_le _,rfl⟩,fun(k:Nat) hk=>⟨fun h1=> ?_,fun h1=> ?_⟩⟩⟩
 ·unfold Xm;rw[h];rfl
 ·have hsh:Xm l n=l.all Xn:=by unfold Xm;rw[h];rfl
  obtain⟨k1,k2⟩:=hk
  have hlt:k<l.length:=by simpa using h1
  have hn2:(l.length:Int)≤n:=by have:=of_decide_eq_false h;omega
  rw[Jz (d:=ev0) hlt,List.all_cons] at k2
  have hz:((0:Int),({data:={toList:=[]}}:ByteArray),([]:List ByteArray),([]:List Int),({data:={toList:=[]}}:ByteArray))=ev0:=rfl
  have hx:((0:Int)≤(k:Int)∧(k:Int)<(l.length:Int))=True:=eq_true (by omega)
  simp only[hz,hx,implies_true,true_and,and_true]
  refine⟨fun h2=> ?_,fun h2=> ?_⟩
  ·have h2:Xn (l.getD k ev0)=false:=by unfold Xn;rw[show Jhj (l.getD k ev0)=true from h2];rfl
   rw[h2] at k2
   rw[hsh,←k2];rfl
  ·have h2:Jhj (l.getD k ev0)=false:=h2
   have h6:(l.getD k ev0).2.2.1.length≤6:=by
    unfold Jhj at h2
    cases hc:decide (6<((l.getD k ev0).2.2.1.length:Int)) with
    |false=>have:=of_decide_eq_false hc;omega
    |true=>rw[hc] at h2;simp at h2
   have hand:∀u v:Bool,(bif u then v else false)=(u&&v):=by decide
   have hsb:Xn (l.getD k ev0)=(l.getD k ev0).2.2.1.all fun s=> !decide (40<(s.size:Int)):=by unfold Xn;rw[h2];rfl
   refine⟨(k,(0:Nat)),by(repeat' first|exact rfl|exact⟨⟩|apply And.intro|omega|dsimp only;omega),⟨hlt,Nat.zero_le _,h6,by rw[hand];rw[hsb] at k2;exact k2⟩,fun(x:Nat×Nat) hx=> ?_⟩
   obtain⟨k',j⟩:=x
   obtain⟨⟨j1,j2,j3,j4⟩,j5⟩:=hx
   have j5:k=k':=j5
   subst j5
   dsimp only at j1 j2 j3 j4⊢
   refine⟨by omega,fun h3=> ?_,fun h3=> ?_⟩
   ·have hj:j<(l.getD k ev0).2.2.1.length:=Int.ofNat_lt.1 (of_decide_eq_true h3)
    rw[Jz (d:=Ja) hj,List.all_cons] at j4
    refine⟨⟨by omega,by omega, ?_, ?_⟩,fun h4=> ?_,fun h4=>⟨?_,(k,j+1),⟨rfl,by simp⟩,⟨⟨hlt,by dsimp only;omega,j3, ?_⟩,rfl⟩, ?_⟩⟩
    ·exact⟨by omega,Int.ofNat_lt.2 hj⟩
    ·exact⟨by omega,Int.ofNat_lt.2 hj⟩
    ·have h4:decide (40<(((l.getD k ev0).2.2.1.getD j Ja).size:Int))=true:=h4
     rw[h4] at j4
     rw[hsh,←j4];rfl
    ·omega
    ·have h4:decide (40<(((l.getD k ev0).2.2.1.getD j Ja).size:Int))=false:=h4
     rw[h4] at j4
     exact j4
    ·dsimp only;omega
   ·have hj:¬j<(l.getD k ev0).2.2.1.length:=fun q=>of_decide_eq_false h3 (Int.ofNat_lt.2 q)
    rw[List.drop_eq_nil_of_le (by omega)] at j4
    exact⟨by omega,(k+1:Nat),by simp,⟨by omega,j4⟩,by omega⟩
 ·have hsh:Xm l n=l.all Xn:=by unfold Xm;rw[h];rfl
  obtain⟨k1,k2⟩:=hk
  have hlt:¬k<l.length:=by simpa using h1
  rw[List.drop_eq_nil_of_le (by omega)] at k2
  rw[hsh,←k2];rfl
abbrev K7d:=K2u.add K52
theorem J0e {k:ByteArray} (h:Ym k=false):(Zp k).2.2=false:=by
 have hne:∀w:ByteArray,Ym w=true→(k.toList==w.toList)=false:=fun w hw=>by
  cases hc:k.toList==w.toList with
  |false=>rfl
  |true=>
   have:=X4 hc
   subst this
   rw[hw] at h;cases h
 unfold Zp
 rw[hne Ju (by kernel_rfl),hne Ub (by kernel_rfl),hne Kl (by kernel_rfl),hne K7 (by kernel_rfl),hne Vp (by kernel_rfl),hne Jv (by kernel_rfl),hne Js (by kernel_rfl),hne Kf (by kernel_rfl),hne Ke (by kernel_rfl),hne Jd (by kernel_rfl),hne Jp (by kernel_rfl)]
 rfl
theorem Jnq {k:ByteArray} (h:Ym k=true):(Zp k).2.2=true∧(Zp k).1.size=(Jj k).1.length∧(Zp k).2.1=(Jj k).2.1:=by
 rcases U4 h with h|h|h|h|h|h|h|h|h|h|h<;>subst h
 all_goals exact⟨by kernel_rfl,by kernel_rfl,by kernel_rfl⟩
def J9 (k:ByteArray):ByteArray×Int×Bool:=Zp k
def Kci:Con:={args:=[aS],ress:=[(true,Ka2)],owns:=[],pre:=fun _=>[],spec:=fun(k,_)=>(J9 k,())}
theorem Kbf:Ok Tryz.prog 110 Kci:=Kbg
abbrev K2t:=K7d.add Kbf
def ckN (ns:List ByteArray):Int:=Jh (ns.map fun s=>bif Yl s then 0 else 8)
def ckV (vs:List Int):Int:=Jh (vs.map fun n=>Kh n 0 999999999)
theorem J0p (t:ByteArray):(t.toList==Ja.toList)= !decide (0<t.size):=by
 cases h:t.toList==Ja.toList with
 |true=>have:=X4 h;subst this;rfl
 | false =>
  have:0<t.size:=Nat.pos_of_ne_zero fun h0=>by
   have e:t.data.toList=[]:=List.eq_nil_of_length_eq_zero h0
   rw[Lib.toList_data,Lib.toList_data,e] at h
   exact nomatch (show true=false from h)
  rw[decide_eq_true this];rfl
theorem Yo (x:Int) (l:List Int):Jh (x::l)=if x=0 then Jh l else x:=rfl
def Kcx:Con:={args:=[aEv],ress:=[I],owns:=[],pre:=fun(e,_)=>[e.2.2.1.length≤1000000,e.2.2.2.1.length≤1000000,∀s∈e.2.2.1,s.size≤1000000],spec:=fun(e,_)=>(Jc e,())}
abbrev Ksc (n:Int) (k:ByteArray) (ns:List ByteArray) (vs:List Int) (t:ByteArray):Nat→Option Ann:=fun id=>if id=0 then some {X:=Nat,σ:=fun i=>⟨4,[(1, .one (.ptr 2 0)),(3, .one (.ptr 3 0)),(4, .one (.int .i64 i))],[(2, .box 67 [.int .i64 n, .str k, .sl 0, .sl 1, .str t]),(3, .box 208 [.str (J9 k).1, .int .i64 (J9 k).2.1, .bool (J9 k).2.2]),(0, .imm 9 .str ns),(1, .imm 3 sI vs)]⟩,inv:=fun i=>i≤ns.length∧ckN (ns.drop i)=ckN ns,mu:=fun i=>ns.length-i}
 else if id=2 then some {X:=Nat,σ:=fun i=>⟨4,[(1, .one (.ptr 2 0)),(3, .one (.ptr 3 0)),(5, .one (.int .i64 i))],[(2, .box 67 [.int .i64 n, .str k, .sl 0, .sl 1, .str t]),(3, .box 208 [.str (J9 k).1, .int .i64 (J9 k).2.1, .bool (J9 k).2.2]),(0, .imm 9 .str ns),(1, .imm 3 sI vs)]⟩,inv:=fun i=>i≤vs.length∧ckV (vs.drop i)=ckV vs,mu:=fun i=>vs.length-i}
 else none
def Z14 (a:Bt):=Nc (ByteArray.size (J9 a).1)
def Kme (a:Nat) (b:Li):=a≤List.length b∧ckV (List.drop a b)=ckV b
def Klz (a:Nat) (b:Ls):=a≤List.length b∧ckN (List.drop a b)=ckN b
def Kxi (a:Int) (b c:Bt) (d:Ls) (e:Li):=Si a (Sf b (Sf c (Sf (J9 b).1 (Si (J9 b).2.1 (Sf (J9 b).2.2 (Sf d (e=e)))))))
def Kwp (a:Nat) (b:Int) (c d:Bt) (e:Ls) (f:Li):=0=Nc a∧Kxi b c d e f
def Kv3 (a b:Nat) (c:Int) (d e:Bt) (f:Ls) (g:Li):=Z95 a b∧Kxi c d e f g
theorem K5p:Ok Tryz.prog 36 Kcx:=okW K2t Tryz.f36 (fun xx=>Ksc xx.1.1 xx.1.2.1 xx.1.2.2.1 xx.1.2.2.2.1 xx.1.2.2.2.2) fun xx=>by
 obtain⟨⟨(n:Int),(k:ByteArray),(ns:List ByteArray),(vs:List Int),(t:ByteArray)⟩,_⟩:=xx
 refine(by kernel_rfl:(Jag ns→Z51 vs→Jga ns→Br (Xj n 1 1000) (3=Z66 n k ns vs t) (Br (!(J9 k).2.2) (13=Z66 n k ns vs t) (Br (bif Ln ns !=Z14 k then true else Ln vs !=(J9 k).2.1) (2=Z66 n k ns vs t) (∃(x:Nat),Kwp x n k t ns vs∧Klz x ns∧∀(x:Nat),Klz x ns→Br (decide (Nc x<Z14 k)) (T2 (Bd (Nc x) (Ln ns)) (ByteArray.size (List.getD ns x B0)≤1000000)∧Br (!Yl (List.getD ns x B0)) (8=Z66 n k ns vs t) (Z19 x∧∃(y:Nat),Kv3 x y n k t ns vs∧Klz y ns∧List.length ns-y<List.length ns-x)) (∃(x:Nat),Kwp x n k t ns vs∧Kme x vs∧∀(x:Nat),Kme x vs→Br (decide (Nc x<(J9 k).2.1)) (Tw (Bd (Nc x) (Ln vs))∧Br (Xj (Z16 vs x) 0 999999999) (3=Z66 n k ns vs t) (Z19 x∧∃(y:Nat),Kv3 x y n k t ns vs∧Kme y vs∧J31 vs y x)) (Br (!Lb t B0) (1=Z66 n k ns vs t) (0=Z66 n k ns vs t)))))))=_).mp ?_
 delta Z14 Z16 Z19 Z51 Z66 Z95 Jag J31 Kme Jgd Klz Jga Kxi Kwp Kv3 Br Iw Bd T2 Tw Sf Si Ln Nc B0 Lb
 intro h1 h2 h3
 have hE1:Kh n 1 1000=bif Xj n 1 1000 then 3 else 0:=rfl
 have hQ:J9 k=Zp k:=rfl
 refine⟨fun h=> ?_,fun h=>⟨fun h4=> ?_,fun h4=> ?_⟩⟩
 ·have e:Kh n 1 1000=3:=by rw[hE1,h];rfl
  unfold Jc
  rw[if_pos (by dsimp only;rw[e];decide),e]
 ·have e:Kh n 1 1000=0:=by rw[hE1,h];rfl
  have hk:Ym k=false:=by
   cases hk:Ym k with
   |false=>rfl
   |true=>
    have:=(Jnq hk).1
    have h4:(!(Zp k).2.2)=true:=h4
    rw[this] at h4;cases h4
  unfold Jc
  rw[if_neg (by dsimp only;rw[e];decide)]
  dsimp only
  rw[hk];rfl
 have e:Kh n 1 1000=0:=by rw[hE1,h];rfl
 have hk:Ym k=true:=by
  cases hk:Ym k with
  |true=>rfl
  |false=>
   have:=J0e hk
   have h4:(!(Zp k).2.2)=false:=h4
   rw[this] at h4;cases h4
 obtain⟨f1,f2,f3⟩:=Jnq hk
 rw[←hQ] at f1 f2 f3
 have hc:Jc (n,k,ns,vs,t)=if ns.length=(Jj k).1.length∧(vs.length:Int)=(Jj k).2.1 then Jh [ckN ns,ckV vs,bif decide (0<t.size) then 1 else 0] else 2:=by
  unfold Jc
  rw[if_neg (by dsimp only;rw[e];decide)]
  dsimp only
  rw[hk,cond_true];rfl
 refine⟨fun h5=> ?_,fun h5=> ?_⟩
 ·rw[hc,if_neg fun q=> ?_]
  have a1:((ns.length:Int) !=((J9 k).1.size:Int))=false:=bne_eq_false_iff_eq.2 (by rw[f2];exact congrArg _ q.1)
  have a2:((vs.length:Int) !=(J9 k).2.1)=false:=bne_eq_false_iff_eq.2 (by rw[f3];exact q.2)
  have h5:(bif (ns.length:Int) !=((J9 k).1.size:Int) then true else(vs.length:Int) !=(J9 k).2.1)=true:=h5
  rw[a1,a2] at h5;cases h5
 have h5:(bif (ns.length:Int) !=((J9 k).1.size:Int) then true else(vs.length:Int) !=(J9 k).2.1)=false:=h5
 have a:=bn1 h5
 have a1:(ns.length:Int)=((J9 k).1.size:Int):=bne_eq_false_iff_eq.1 a.1
 have a2:(vs.length:Int)=(J9 k).2.1:=bne_eq_false_iff_eq.1 a.2
 rw[if_pos ⟨by rw[f2] at a1;omega,by rw[a2,f3]⟩] at hc
 refine⟨(0:Nat),by(repeat' first|exact rfl|exact⟨⟩|apply And.intro|omega|dsimp only;omega),⟨Nat.zero_le _,rfl⟩,fun(i:Nat) hi=>⟨fun h6=> ?_,fun h6=> ?_⟩⟩
 ·have h6:(i:Int)<((J9 k).1.size:Int):=of_decide_eq_true h6
  have hlt:i<ns.length:=by omega
  have hN:ckN (ns.drop i)=if(bif Yl (ns.getD i Ja) then(0:Int) else 8)=0 then ckN (ns.drop (i+1)) else bif Yl (ns.getD i Ja) then 0 else 8:=by
   rw[Jz (d:=Ja) hlt]
   exact Yo _ _
  refine⟨⟨by omega,by omega,h3 _ (Je hlt)⟩,fun h7=> ?_,fun h7=>⟨by omega,(i+1:Nat),by(repeat' first|exact rfl|exact⟨⟩|apply And.intro|omega|dsimp only;omega),⟨by omega, ?_⟩,by omega⟩⟩
  ·have h7:(!Yl (ns.getD i Ja))=true:=h7
   have h7:Yl (ns.getD i Ja)=false:=by simpa using h7
   rw[h7] at hN
   have:ckN ns=8:=by rw[←hi.2,hN];rfl
   rw[hc,Yo,this];rfl
  ·have h7:(!Yl (ns.getD i Ja))=false:=h7
   have h7:Yl (ns.getD i Ja)=true:=by simpa using h7
   rw[h7] at hN
   rw[←hi.2,hN];rfl
 ·have h6:¬(i:Int)<((J9 k).1.size:Int):=of_decide_eq_false h6
  have hN:ckN ns=0:=by rw[←hi.2,List.drop_eq_nil_of_le (by omega)];rfl
  refine⟨(0:Nat),by(repeat' first|exact rfl|exact⟨⟩|apply And.intro|omega|dsimp only;omega),⟨Nat.zero_le _,rfl⟩,fun(j:Nat) hj=>⟨fun h8=> ?_,fun h8=> ?_⟩⟩
  ·have h8:(j:Int)<(J9 k).2.1:=of_decide_eq_true h8
   have hlt:j<vs.length:=by omega
   have hV:ckV (vs.drop j)=if Kh (vs.getD j 0) 0 999999999=0 then ckV (vs.drop (j+1)) else Kh (vs.getD j 0) 0 999999999:=by
    rw[Jz (d:=(0:Int)) hlt]
    exact Yo _ _
   have hW:Kh (vs.getD j 0) 0 999999999=bif Xj (vs.getD j 0) 0 999999999 then 3 else 0:=rfl
   refine⟨by omega,fun h7=> ?_,fun h7=>⟨by omega,(j+1:Nat),by(repeat' first|exact rfl|exact⟨⟩|apply And.intro|omega|dsimp only;omega),⟨by omega, ?_⟩,by omega⟩⟩
   ·rw[hW,h7] at hV
    have:ckV vs=3:=by rw[←hj.2,hV];rfl
    rw[hc,Yo,hN,if_pos rfl,Yo,this];rfl
   ·rw[hW,h7] at hV
    rw[←hj.2,hV];rfl
  ·have h8:¬(j:Int)<(J9 k).2.1:=of_decide_eq_false h8
   have hV:ckV vs=0:=by rw[←hj.2,List.drop_eq_nil_of_le (by omega)];rfl
   have hz:(t.toList==({data:={toList:=[]}}:ByteArray).toList)= !decide (0<t.size):=J0p t
   rw[hz,hc,Yo,hN,if_pos rfl,Yo,hV,if_pos rfl]
   cases decide (0<t.size)
   ·exact⟨fun h=>(nomatch h),fun _=>rfl⟩
   ·exact⟨fun _=>rfl,fun h=>(nomatch h)⟩
abbrev K7c:=K2t.add K5p
abbrev K7b:=K7c
abbrev K7a:=K7b
abbrev K69:=K7a
abbrev K68:=K69
abbrev K67:=K68
abbrev K2s:=K67
def Jii (c:Int):Int:=bif c==115 then 0 else bif c==111 then 1 else bif c==120 then 2 else 3
def Jk4 (b:UInt8):Int×Bool:=bif decide ((97:Int)≤(b.toNat:Int)) then(Jii b.toNat,true) else(Jii (b.toNat+97-65),false)
theorem J3f (r:Reg) (c:Int) (s:ByteArray):Vl r (Jii c) s=decide (0≤atS r c s):=by
 unfold atS Jii
 cases h1:c==115 with
 |true=>rfl
 | false =>
  cases h2:c==111 with
  |true=>rfl
  |false=>
   cases h3:c==120 with
   |true=>rfl
   |false=>rfl
theorem Jr7 {k:ByteArray} (h:Ym k=true):(Jj k).1=(J9 k).1.data.toList.map Jk4∧((Jj k).1.drop 1).all (fun x=>x.2)=true:=by
 rcases U4 h with h|h|h|h|h|h|h|h|h|h|h<;>subst h
 all_goals exact⟨by kernel_rfl,by kernel_rfl⟩
theorem Jd7 {r:Reg} {ns:List ByteArray}:∀{l:List (Int×Bool)} {i:Nat},l.all (fun x=>x.2)=true→Kx r ns l i=false
 |[],_,_=>rfl
 |(w,b)::l,i,h=>by
  rw[List.all_cons,Bool.and_eq_true] at h
  have hb:b=true:=h.1
  subst hb
  unfold Kx
  exact Jd7 h.2
def Jt (r:Reg) (k:ByteArray) (ns:List ByteArray):Int:=bif Km r ns (Jj k).1 0 then 10 else bif Kx r ns (Jj k).1 0 then 9 else 0
def Kb1:Con:={args:=[Zx,aEv],ress:=[I],owns:=[],pre:=fun(r,e,_)=>[Jn r,Ym e.2.1=true,e.2.2.1.length=(Jj e.2.1).1.length],spec:=fun(r,e,_)=>(Jt r e.2.1 e.2.2.1,())}
abbrev Kdj (tk st:Int) (S:List Sta) (O:List Ord) (M:List Met) (X:List Out) (Q:List Per) (n:Int) (k:ByteArray) (ns:List ByteArray) (vs:List Int) (tx:ByteArray):Ann:={X:=Nat,σ:=fun i=>⟨9,[(2, .one (.ptr 7 0)),(3, .one (.ptr 8 0)),(5, .one (.str (J9 k).1)),(6, .one (.int .i64 i))],[(0, .imm 114 Fd S),(1, .imm 119 Lf O),(2, .imm 121 Jah M),(3, .imm 123 Zg X),(4, .imm 125 Hm Q),(5, .imm 9 .str ns),(6, .imm 3 sI vs),(7, .box 37 [.int .i64 tk, .int .i64 st, .sl 0, .sl 1, .sl 2, .sl 3, .sl 4]),(8, .box 67 [.int .i64 n, .str k, .sl 5, .sl 6, .str tx])]⟩,inv:=fun i=>i≤(J9 k).1.size∧Km (tk,st,S,O,M,X,Q) ns ((Jj k).1.drop i) i=Km (tk,st,S,O,M,X,Q) ns (Jj k).1 0,mu:=fun i=>(J9 k).1.size-i}
def K1j (a:Bt):=Nc (UInt8.toNat (List.getD (J9 a).1.data.toList 0 0))
def K0z (a:Bt) (b:Nat):=decide (97≤Nc (UInt8.toNat (List.getD (J9 a).1.data.toList b 0)))
def Kke (a:Bt) (b:Nat):=K0z a b=true
def Kw6 (a:Bt):=bif decide (0<Z14 a) then decide (K1j a<97) else false
def Kik (a:Bt):=Kw6 a=true
def Kij (a:Nat) (b:Bt) (c d:Int) (e:List Sta) (f:List Ord) (g:List Met) (h:List Out) (i:List Per) (j:Ls):=a≤ByteArray.size (J9 b).1∧Km (Z65 c d e f g h i) j (List.drop a (Jj b).1) a=Km (Z65 c d e f g h i) j (Jj b).1 0
theorem Kok:Ok Tryz.prog 224 Kb1:=okW K2s Tryz.f224 (fun xx=>X8 (Kdj xx.1.1 xx.1.2.1 xx.1.2.2.1 xx.1.2.2.2.1 xx.1.2.2.2.2.1 xx.1.2.2.2.2.2.1 xx.1.2.2.2.2.2.2 xx.2.1.1 xx.2.1.2.1 xx.2.1.2.2.1 xx.2.1.2.2.2.1 xx.2.1.2.2.2.2)) fun xx=>by
 obtain⟨⟨(tk:Int),(st:Int),(S:List Sta),(O:List Ord),(M:List Met),(X:List Out),(Q:List Per)⟩,⟨(n:Int),(k:ByteArray),(ns:List ByteArray),(vs:List Int),(tx:ByteArray)⟩,_⟩:=xx
 refine(by kernel_rfl:(Jx tk st S O M X Q→Ym k=true→List.length ns=List.length (Jj k).1→∃(x:Nat),Sf (J9 k).1 (0=Nc x∧Sf S (Sf O (Sf M (Sf X (Sf Q (Sf ns (Sf vs (Si tk (Si st (Si n (Sf k (tx=tx))))))))))))∧Kij x k tk st S O M X Q ns∧∀(x:Nat),Kij x k tk st S O M X Q ns→Br (decide (Nc x<Z14 k)) ((Bd (Nc x) (Z14 k)∧(Kke k x→Bd (Nc x) (Z14 k))∧T2 (Kke k x→Bd (Nc x) (Ln ns)) (Kke k x→Jx tk st S O M X Q))∧Br (bif K0z k x then decide (atS (Z65 tk st S O M X Q) (Nc (UInt8.toNat (List.getD (J9 k).1.data.toList x 0))) (List.getD ns x B0)<0) else false) (10=Jt (Z65 tk st S O M X Q) k ns) (Z19 x∧∃(y:Nat),Sf (J9 k).1 (Z95 x y∧Sf S (Sf O (Sf M (Sf X (Sf Q (Sf ns (Sf vs (Si tk (Si st (Si n (Sf k (tx=tx))))))))))))∧Kij y k tk st S O M X Q ns∧ByteArray.size (J9 k).1-y<ByteArray.size (J9 k).1-x)) (((decide (0<Z14 k)=true→Bd 0 (Z14 k))∧(Kik k→Bd 0 (Z14 k))∧T2 (Kik k→Z99 ns) (Kik k→Jx tk st S O M X Q))∧Br (bif Kw6 k then decide (0≤atS (Z65 tk st S O M X Q) (IntKind.wrap IntKind.u8 (IntKind.wrap IntKind.u8 (K1j k+97)-65)) (Z91 ns)) else false) (9=Jt (Z65 tk st S O M X Q) k ns) (0=Jt (Z65 tk st S O M X Q) k ns)))=_).mp ?_
 delta Z14 Z19 Z65 Z91 Z95 Z99 Jx K1j K0z Kke Kw6 Kik Kij Br Iw Bd T2 Sf Si Ln Nc B0
 intro hr hk hn
 obtain⟨f1,f2,f3⟩:=Jnq hk
 have f2:(J9 k).1.size=(Jj k).1.length:=f2
 obtain⟨fr,fk⟩:=Jr7 hk
 have hB:=Jjg k
 have hfl:(J9 k).1.data.toList.length=(J9 k).1.size:=rfl
 have hb0:∀i,i<(J9 k).1.size→(Jj k).1.getD i (0,false)=Jk4 ((J9 k).1.data.toList.getD i 0):=fun i hi=>by
  rw[fr,List.getD_eq_getElem?_getD,List.getElem?_map,List.getD_eq_getElem?_getD]
  rw[List.getElem?_eq_getElem (by omega)];rfl
 refine⟨(0:Nat),by(repeat' first|exact rfl|exact⟨⟩|apply And.intro|omega|dsimp only;omega),⟨Nat.zero_le _,rfl⟩,fun(i:Nat) hi=>⟨fun h1=> ?_,fun h1=> ?_⟩⟩
 ·have hlt:i<(J9 k).1.size:=by simpa using h1
  have h0:=hi.2
  rw[Jz (d:=((0:Int),false)) (by omega),hb0 i hlt] at h0
  have hu:Km (tk,st,S,O,M,X,Q) ns (Jk4 ((J9 k).1.data.toList.getD i 0)::(Jj k).1.drop (i+1)) i=bif (bif decide (97≤(((J9 k).1.data.toList.getD i 0).toNat:Int)) then decide (atS (tk,st,S,O,M,X,Q) (((J9 k).1.data.toList.getD i 0).toNat:Int) (ns.getD i Ja)<0) else false) then true else Km (tk,st,S,O,M,X,Q) ns ((Jj k).1.drop (i+1)) (i+1):=by
   unfold Jk4
   cases hc:decide ((97:Int)≤(((J9 k).1.data.toList.getD i 0).toNat:Int)) with
   |false=>rfl
   | true =>
    rw[cond_true,Km,J3f,cond_true]
    have:(!decide (0≤atS (tk,st,S,O,M,X,Q) (((J9 k).1.data.toList.getD i 0).toNat:Int) (ns.getD i Ja)))=decide (atS (tk,st,S,O,M,X,Q) (((J9 k).1.data.toList.getD i 0).toNat:Int) (ns.getD i Ja)<0):=by
     rw[Bool.eq_iff_iff];simp
    rw[this];rfl
  rw[hu] at h0
  refine⟨⟨by omega,fun _=>by omega,fun _=>by omega,fun _=>by omega,fun _=>hr⟩,fun h2=> ?_,fun h2=>⟨by omega,(i+1:Nat),by(repeat' first|exact rfl|exact⟨⟩|apply And.intro|omega|dsimp only;omega),⟨by omega, ?_⟩,by omega⟩⟩
  ·rw[show(bif decide (97≤(((J9 k).1.data.toList.getD i 0).toNat:Int)) then decide (atS (tk,st,S,O,M,X,Q) (((J9 k).1.data.toList.getD i 0).toNat:Int) (ns.getD i Ja)<0) else false)=true from h2,cond_true] at h0
   unfold Jt;rw[←h0];rfl
  ·rw[show(bif decide (97≤(((J9 k).1.data.toList.getD i 0).toNat:Int)) then decide (atS (tk,st,S,O,M,X,Q) (((J9 k).1.data.toList.getD i 0).toNat:Int) (ns.getD i Ja)<0) else false)=false from h2,cond_false] at h0
   exact h0
 ·have hlt:¬i<(J9 k).1.size:=by simpa using h1
  have h0:=hi.2
  rw[List.drop_eq_nil_of_le (by omega)] at h0
  have hu0:Km (tk,st,S,O,M,X,Q) ns (Jj k).1 0=false:=h0.symm
  have hN:Jt (tk,st,S,O,M,X,Q) k ns=bif Kx (tk,st,S,O,M,X,Q) ns (Jj k).1 0 then 9 else 0:=by unfold Jt;rw[hu0];rfl
  have g0:∀{p:Prop},(bif decide ((0:Int)<((J9 k).1.size:Int)) then decide ((((J9 k).1.data.toList.getD 0 0).toNat:Int)<97) else false)=true→(J9 k).1.size≠0:=fun{p} h=>by
   intro q
   rw[q] at h
   cases h
  have hz:∀{b:Bool},(bif decide ((0:Int)<((J9 k).1.size:Int)) then b else false)=true→0<(J9 k).1.size:=fun{b} h=>by
   by_cases q:0<(J9 k).1.size
   ·exact q
   ·rw[decide_eq_false (show ¬(0:Int)<((J9 k).1.size:Int) by omega)] at h;cases h
  have key:(bif bif decide ((0:Int)<((J9 k).1.size:Int)) then decide ((((J9 k).1.data.toList.getD 0 0).toNat:Int)<97) else false then decide (0≤atS (tk,st,S,O,M,X,Q) (IntKind.u8.wrap (IntKind.u8.wrap ((((J9 k).1.data.toList.getD 0 0).toNat:Int)+97)-65)) (ns.getD 0 Ja)) else false)=Kx (tk,st,S,O,M,X,Q) ns (Jj k).1 0:=by
   by_cases q:0<(J9 k).1.size
   ·rw[decide_eq_true (show(0:Int)<((J9 k).1.size:Int) by omega),cond_true]
    have hc:=Jz (l:=(Jj k).1) (k:=0) (d:=((0:Int),false)) (by omega)
    rw[List.drop_zero,hb0 0 q] at hc
    rw[hc]
    unfold Jk4
    by_cases q1:(97:Int)≤(((J9 k).1.data.toList.getD 0 0).toNat:Int)
    ·rw[decide_eq_true q1,decide_eq_false (show ¬(((J9 k).1.data.toList.getD 0 0).toNat:Int)<97 by omega)]
     exact(Jd7 fk).symm
    ·rw[decide_eq_false q1,decide_eq_true (show(((J9 k).1.data.toList.getD 0 0).toNat:Int)<97 by omega)]
     rw[cond_true,cond_false,Kx,J3f,Jd7 fk,J4b (n:=(((J9 k).1.data.toList.getD 0 0).toNat:Int)+97) (by omega) (by omega),J4b (n:=(((J9 k).1.data.toList.getD 0 0).toNat:Int)+97-65) (by omega) (by omega)]
     show _=bif _ then true else false
     cases decide (0≤atS (tk,st,S,O,M,X,Q) ((((J9 k).1.data.toList.getD 0 0).toNat:Int)+97-65) (ns.getD 0 Ja))<;>rfl
   ·rw[decide_eq_false (show ¬(0:Int)<((J9 k).1.size:Int) by omega)]
    have:(Jj k).1=[]:=List.eq_nil_of_length_eq_zero (by omega)
    rw[this];rfl
  refine⟨⟨fun h=>⟨by decide,of_decide_eq_true h⟩,fun h=>⟨by decide,by have:=hz h;omega⟩,fun h=>⟨by decide,by have:=hz h;omega⟩,fun h=>⟨by decide,by have:=hz h;omega⟩,fun _=>hr⟩,fun h2=> ?_,fun h2=> ?_⟩
  ·rw[hN,show Kx (tk,st,S,O,M,X,Q) ns (Jj k).1 0=true from key.symm.trans h2];rfl
  ·rw[hN,show Kx (tk,st,S,O,M,X,Q) ns (Jj k).1 0=false from key.symm.trans h2];rfl
abbrev K2r:=K2s.add Kok
def Yd (Q:List Per) (s:ByteArray):Bool:=decide ((0:Int)<((L6 Q).filter fun p=>p.2.1.toList==s.toList).length)
theorem Jnp (x:Per) (Q:List Per) (s:ByteArray):Yd (x::Q) s=bif (bif x.2.1.toList==s.toList then x.2.2 else false) then true else Yd Q s:=by
 unfold Yd L6
 rw[List.filter_cons]
 cases h1:x.2.2 with
 |false=>
  rw[if_neg (by simp)]
  cases(x.2.1.toList==s.toList)<;>rfl
 | true =>
  rw[if_pos rfl,List.filter_cons]
  cases h2:(x.2.1.toList==s.toList) with
  |false=>rfl
  |true=>
   rw[if_pos rfl]
   exact decide_eq_true (by simp only[List.length_cons];omega)
def Kcg:Con:={args:=[Zx,aS],ress:=[Bo],owns:=[],pre:=fun((_,_,_,_,_,_,Q),_)=>[Q.length≤1000000],spec:=fun((_,_,_,_,_,_,Q),s,_)=>(Yd Q s,())}
abbrev Kdi (tk st:Int) (S:List Sta) (O:List Ord) (M:List Met) (X:List Out) (Q:List Per) (s:ByteArray):Ann:={X:=Nat,σ:=fun k=>⟨6,[(1, .one (.str s)),(2, .one (.ptr 5 0)),(5, .one (.int .i64 k))],[(0, .imm 114 Fd S),(1, .imm 119 Lf O),(2, .imm 121 Jah M),(3, .imm 123 Zg X),(4, .imm 125 Hm Q),(5, .box 37 [.int .i64 tk, .int .i64 st, .sl 0, .sl 1, .sl 2, .sl 3, .sl 4])]⟩,inv:=fun k=>k≤Q.length∧Yd Q s=Yd (Q.drop k) s,mu:=fun k=>Q.length-k}
def Kl0 (a:Nat) (b:List Per) (c:Bt):=a≤List.length b∧Yd b c=Yd (List.drop a b) c
theorem Knw:Ok Tryz.prog 269 Kcg:=okW K2r Tryz.f269 (fun xx=>X8 (Kdi xx.1.1 xx.1.2.1 xx.1.2.2.1 xx.1.2.2.2.1 xx.1.2.2.2.2.1 xx.1.2.2.2.2.2.1 xx.1.2.2.2.2.2.2 xx.2.1)) fun xx=>by
 obtain⟨⟨(tk:Int),(st:Int),(S:List Sta),(O:List Ord),(M:List Met),(X:List Out),(Q:List Per)⟩,(s:ByteArray),_⟩:=xx
 refine(by kernel_rfl:(Z50 Q→∃(x:Nat),Jym s x S O M X Q tk st∧Kl0 x Q s∧∀(x:Nat),Kl0 x Q s→Br (Jy2 x Q) (T2 (Bd (Nc x) (Ln Q)) (Tw (Lb (J35 Q x).1 s=true→Bd (Nc x) (Ln Q)))∧Br (bif Lb (J35 Q x).1 s then(J35 Q x).2 else false) (true=Yd Q s) (Z19 x∧∃(y:Nat),Jyl s x y S O M X Q tk st∧Kl0 y Q s∧J1t Q y x)) (false=Yd Q s))=_).mp ?_
 delta Z19 Z50 Z95 Jy2 J35 J1t Kl0 Jqj Jym Jyl Br Iw Bd T2 Tw Sf Si Ln Nc B0 Lb
 intro hb
 refine⟨(0:Nat),by(repeat' first|exact rfl|exact⟨⟩|apply And.intro|omega|dsimp only;omega),⟨Nat.zero_le _,rfl⟩,fun(k:Nat) hk=>⟨fun h=> ?_,fun h=> ?_⟩⟩
 ·have hlt:k<Q.length:=by simpa using h
  have hd:=Jz (d:=Jiz) hlt
  have h0:=hk.2
  rw[hd,Jnp] at h0
  refine⟨⟨by omega,by omega,fun _=>by omega,fun _=>by omega⟩,fun h1=> ?_,fun h1=>⟨by omega,(k+1:Nat),by(repeat' first|exact rfl|exact⟨⟩|apply And.intro|omega|dsimp only;omega),⟨by omega, ?_⟩,by omega⟩⟩
  ·rw[h0,show(bif (Q.getD k Jiz).snd.fst.toList==s.toList then(Q.getD k Jiz).snd.snd else false)=true from h1];rfl
  ·rw[h0,show(bif (Q.getD k Jiz).snd.fst.toList==s.toList then(Q.getD k Jiz).snd.snd else false)=false from h1];rfl
 ·have hlt:¬k<Q.length:=by simpa using h
  have:k=Q.length:=by omega
  rw[hk.2,this,List.drop_length];rfl
abbrev K2q:=K2r.add Knw
def Kc3 (t a b:Int):Bool:=bif (bif decide (a<t) then true else decide (b≤a)) then true else decide (48<b-a)
def J00:Con:={args:=[aI, .val true Hx],ress:=[Bo],owns:=[],pre:=fun(_,s,_)=>[0≤s.1∧s.1≤999999999,0≤s.2∧s.2≤999999999],spec:=fun(t,s,_)=>(Kc3 t s.1 s.2,())}
theorem Knx:Ok Tryz.prog 268 J00:=okW K2q Tryz.f268 na fun xx=>by
 obtain⟨(t:Int),⟨(a:Int),(b:Int)⟩,_⟩:=xx
 refine(by kernel_rfl:(Kat a→Kat b→((bif decide (a<t) then true else decide (b≤a))=false→Iw (b-a))∧(bif bif decide (a<t) then true else decide (b≤a) then true else decide (48<b-a))=Kc3 t a b)=_).mp ?_
 delta Kat Iw
 intro h1 h2
 exact⟨fun _=>by omega,rfl⟩
abbrev Jss:=K2q.add Knx
def Jce (X:List Out):Prop:=(X.map fun x=>x.1).Nodup
theorem Jvc:∀{l:List Out} {k:Nat} {x:Out},(l.map fun x=>x.1).Nodup→x∈l→∃i,Vg (fun y:Out=>y.1.toList==x.1.toList) l k=((k+i:Nat):Int)∧i<l.length∧l.getD i Jbh=x
 |[],_,_,_,h=>by cases h
 | y :: l, k, x, hn, h => by
  rw[List.map_cons,List.nodup_cons] at hn
  unfold Vg
  by_cases q:(y.1.toList==x.1.toList)=true
  ·have q1:=X4 q
   rw[if_pos q]
   rcases List.mem_cons.1 h with h|h
   ·exact⟨0,rfl,by simp,h.symm⟩
   ·exact absurd (q1▸List.mem_map_of_mem (f:=fun z:Out=>z.1) h) hn.1
  ·rw[if_neg q]
   rcases List.mem_cons.1 h with h|h
   ·subst h;exact absurd (beq_self_eq_true _) q
   ·obtain⟨i,h1,h2,h3⟩:=Jvc (k:=k+1) hn.2 h
    exact⟨i+1,by rw[h1];congr 1;omega,by simp;omega,h3⟩
theorem J4f {X:List Out} (h:Jce X) {x:Out} (hx:x∈X):L5 X x.1=x:=by
 obtain⟨i,h1,_,h3⟩:=Jvc (k:=0) h hx
 unfold L5 J7
 rw[h1,Nat.zero_add,Int.toNat_natCast]
 exact h3
theorem Jpm {α:Type} {p:α→Bool}:∀{l:List α} {k:Nat},Vg p l k<0→∀x∈l,p x=false
 |[],_,_,x,hx=>by cases hx
 | y :: l, k, h, x, hx => by
  unfold Vg at h
  by_cases q:p y=true
  ·rw[if_pos q] at h;omega
  ·rw[if_neg q] at h
   rcases List.mem_cons.1 hx with hx|hx
   ·subst hx;simpa using q
   ·exact Jpm h x hx
theorem Jq9 {X:List Out} {x:Out} (h:Jce X) (hn:J7 X x.1<0):Jce (X++[x]):=by
 unfold Jce at h⊢
 rw[List.map_append,List.nodup_append]
 refine⟨h,by simp,fun a ha b hb=> ?_⟩
 obtain⟨y,hy,rfl⟩:=List.mem_map.1 ha
 have hb:b=x.1:=by simpa using hb
 subst hb
 intro e
 have:=Jpm hn y hy
 rw[e,beq_self_eq_true] at this
 cases this
theorem J4e {X:List Out} {s:ByteArray} {v:Int} (h:Jce X) (hf:0≤J7 X s):Jce (Jed X s v):=by
 unfold Jce Jed at*
 have hl:=Ut (l:=X) (s:=s)
 rw[List.map_set]
 have:(X.map fun x=>x.1).set (J7 X s).toNat (L5 X s).1=X.map fun x=>x.1:=by
  apply List.ext_getElem?
  intro i
  rw[List.getElem?_set]
  by_cases q:(J7 X s).toNat=i
  ·rw[if_pos q]
   subst q
   rw[if_pos (by rw[List.length_map];omega),List.getElem?_map]
   unfold L5
   rw[List.getD_eq_getElem?_getD,List.getElem?_eq_getElem (by omega)]
   rfl
  ·rw[if_neg q]
 rw[this]
 exact h
def Vo (r:Reg) (e:Ev):Int:=if decide (e.2.2.2.1.getD 0 0<r.1)=true then 22 else if Jt r e.2.1 e.2.2.1≠0 then Jt r e.2.1 e.2.2.1 else ckS r e
def Ys (r:Reg) (e:Ev):Reg:=if decide (e.2.2.2.1.getD 0 0<r.1)=true then r else if Jt r e.2.1 e.2.2.1≠0 then r else if ckS r e≠0 then(e.2.2.2.1.getD 0 0,r.2) else Jl r e
def Lz:Con:={args:=[Zx,aEv],ress:=[(true,Jk0),I],owns:=[],pre:=fun(r,e,_)=>[Jn r,Jce r.2.2.2.2.2.1,r.2.2.2.2.1.length<10000,Jc e=0,(e.2.1.toList==Jp.toList)=false],spec:=fun(r,e,_)=>(Ys r e,Vo r e,())}
abbrev Kbo:Ann:={X:=Unit,σ:=fun _=>⟨0,[],[]⟩,inv:=fun _=>True,mu:=fun _=>0,un:=7777}
abbrev L0:Nat→Option Ann:=fun id=>if id=1000034 then some Kbo else none
abbrev Xu (o:Option Ann):FuncId→Nat→Option Ann:=fun f id=>if f=226∨f=227 then(if id=1000073∨id=1000147∨id=1000195∨id=1000233∨id=1000052∨id=1000077∨id=1000097∨id=1000198 then some Kbo else if id=1∨id=3 then o else none) else none
theorem Jru {r:Reg} {k:ByteArray} {ns:List ByteArray} (h:Jt r k ns=0):Km r ns (Jj k).1 0=false∧Kx r ns (Jj k).1 0=false:=by
 unfold Jt at h
 cases h1:Km r ns (Jj k).1 0 with
 |true=>rw[h1] at h;cases h
 |false=>
  rw[h1,cond_false] at h
  cases h2:Kx r ns (Jj k).1 0 with
  |true=>rw[h2] at h;cases h
  |false=>exact⟨rfl,rfl⟩
theorem Jqe {r:Reg} {e:Ev} (h:decide (e.2.2.2.1.getD 0 0<r.1)=true):Ys r e=r∧Vo r e=22:=by unfold Ys Vo;rw[if_pos h,if_pos h];exact⟨rfl,rfl⟩
theorem Jl9 {r:Reg} {e:Ev} (h:decide (e.2.2.2.1.getD 0 0<r.1)=false) (h2:Jt r e.2.1 e.2.2.1≠0):Ys r e=r∧Vo r e=Jt r e.2.1 e.2.2.1:=by
 have a:¬decide (e.2.2.2.1.getD 0 0<r.1)=true:=by rw[h];simp
 unfold Ys Vo
 constructor
 ·rw[if_neg a,if_pos h2]
 ·rw[if_neg a,if_pos h2]
theorem Kdl {r:Reg} {e:Ev} {c:Int} (h:decide (e.2.2.2.1.getD 0 0<r.1)=false) (h2:Jt r e.2.1 e.2.2.1=0) (h3:ckS r e=c) (h4:c≠0):Ys r e=(e.2.2.2.1.getD 0 0,r.2)∧Vo r e=c:=by
 have a:¬decide (e.2.2.2.1.getD 0 0<r.1)=true:=by rw[h];simp
 have b:¬Jt r e.2.1 e.2.2.1≠0:=by rw[h2];simp
 have d:ckS r e≠0:=by rw[h3];exact h4
 unfold Ys Vo
 rw[if_neg a,if_neg a,if_neg b,if_neg b,if_pos d]
 exact⟨rfl,h3⟩
theorem Kdk {r:Reg} {e:Ev} (h:decide (e.2.2.2.1.getD 0 0<r.1)=false) (h2:Jt r e.2.1 e.2.2.1=0) (h3:ckS r e=0):Ys r e=Jl r e∧Vo r e=0:=by
 have a:¬decide (e.2.2.2.1.getD 0 0<r.1)=true:=by rw[h];simp
 have b:¬Jt r e.2.1 e.2.2.1≠0:=by rw[h2];simp
 have d:¬ckS r e≠0:=by rw[h3];simp
 unfold Ys Vo
 rw[if_neg a,if_neg a,if_neg b,if_neg b,if_neg d]
 exact⟨rfl,h3⟩
theorem Hk (n lo hi:Int):Kh n lo hi=bif Xj n lo hi then 3 else 0:=rfl
theorem Kdm {r:Reg} {e:Ev} (h:decide (e.2.2.2.1.getD 0 0<r.1)=false) (h2:(Jt r e.2.1 e.2.2.1 !=0)=false):Vo r e=ckS r e:=by
 have h2:Jt r e.2.1 e.2.2.1=0:=by simpa using h2
 unfold Vo
 rw[if_neg (by rw[h];simp),if_neg (by rw[h2];simp)]
theorem Kse {r:Reg} {e:Ev} (h:decide (e.2.2.2.1.getD 0 0<r.1)=false) (h2:(Jt r e.2.1 e.2.2.1 !=0)=false) (h3:ckS r e≠0):Ys r e=(e.2.2.2.1.getD 0 0,r.2):=by
 have h2:Jt r e.2.1 e.2.2.1=0:=by simpa using h2
 exact(Kdl h h2 rfl h3).1
theorem Ksf {r:Reg} {e:Ev} (h:decide (e.2.2.2.1.getD 0 0<r.1)=false) (h2:(Jt r e.2.1 e.2.2.1 !=0)=false) (h3:ckS r e=0):Ys r e=Jl r e:=by
 have h2:Jt r e.2.1 e.2.2.1=0:=by simpa using h2
 exact(Kdk h h2 h3).1
theorem Jno {α:Type} {p:α→Bool} {d:α}:∀{l:List α} {k:Nat},0≤Vg p l k→∃i,Vg p l k=((k+i:Nat):Int)∧p (l.getD i d)=true
 |[],k,h=>by unfold Vg at h;exact absurd h (by decide)
 | x :: l, k, h => by
  unfold Vg at h⊢
  by_cases q:p x=true
  ·rw[if_pos q];exact⟨0,rfl,q⟩
  ·rw[if_neg q] at h⊢
   obtain⟨i,h1,h2⟩:=Jno (d:=d) h
   exact⟨i+1,by rw[h1];congr 1;omega,h2⟩
theorem Jld {X:List Out} {s:ByteArray} (h:0≤J7 X s):(L5 X s).1=s:=by
 unfold J7 at h
 obtain⟨i,h1,h2⟩:=Jno (d:=Jbh) h
 have:L5 X s=X.getD i Jbh:=by unfold L5 J7;rw[h1,Nat.zero_add];rfl
 rw[this]
 exact X4 h2
theorem Kq4 {M:List Met} {s:ByteArray} {h:Int}:decide (0≤Kq M s h)=(L8 M s h).2:=by
 unfold L8
 by_cases q:0≤Kq M s h
 ·rw[if_pos q,decide_eq_true q]
 ·rw[if_neg q,decide_eq_false q]
theorem Jqb {f:Int→Bool} {a:Int} {k n:Nat} (h:k<n):Jsd f (a+(k:Int)) (n-k)=bif f (a+(k:Int)) then true else Jsd f (a+((k+1:Nat):Int)) (n-(k+1)):=by
 have hj:n-k=(n-(k+1))+1:=by omega
 rw[hj,Jsd]
 have:a+(k:Int)+1=a+((k+1:Nat):Int):=by push_cast;omega
 rw[this]
theorem Jqc {f:Int→Bool} {a:Int} {k n:Nat} (h:n≤k):Jsd f a (n-k)=false:=by
 have hj:n-k=0:=by omega
 rw[hj];rfl
theorem K54 (a b p:Int):decide (min a b<p)=bif decide (a<p) then true else decide (b<p):=by
 by_cases h:a<p
 ·rw[decide_eq_true h];exact decide_eq_true (by omega)
 ·rw[decide_eq_false h,cond_false]
  by_cases h2:b<p
  ·rw[decide_eq_true h2];exact decide_eq_true (by omega)
  ·rw[decide_eq_false h2];exact decide_eq_false (by omega)
theorem Kq9 {α:Type} {l:List α} {p:α→Bool}:decide ((0:Int)<(l.filter p).length)=l.any p:=by
 induction l with
 |nil=>rfl
 |cons x l ih=>
  rw[List.filter_cons,List.any_cons]
  cases h:p x with
  |true=>rw[if_pos rfl,Bool.true_or];exact decide_eq_true (by rw[List.length_cons];omega)
  |false=>rw[if_neg (by simp),Bool.false_or];exact ih
theorem J5a {X:List Out} {Q:List Per} {u:Int} (hu:Jce X) (hp:∀p∈Q,0≤J7 X p.2.1):decide ((0:Int)<((L6 Q).filter fun p=>decide ((L5 X p.2.1).2.2.1.2≤u)).length)=X.any fun x=>decide (x.2.2.1.2≤u)&&Yd Q x.1:=by
 rw[Kq9,Bool.eq_iff_iff,List.any_eq_true,List.any_eq_true]
 constructor
 ·rintro⟨p,h1,h2⟩
  have hq:=Jle h1
  have h3:=hp p hq
  refine⟨L5 X p.2.1,Jum h3, ?_⟩
  rw[h2,Bool.true_and]
  unfold Yd
  rw[Kq9,List.any_eq_true]
  exact⟨p,h1,by rw[Jld h3,beq_self_eq_true]⟩
 ·rintro⟨x,h1,h2⟩
  rw[Bool.and_eq_true] at h2
  obtain⟨h2,h3⟩:=h2
  unfold Yd at h3
  rw[Kq9,List.any_eq_true] at h3
  obtain⟨p,h4,h5⟩:=h3
  have h6:p.2.1=x.1:=X4 h5
  exact⟨p,h4,by rw[h6,J4f hu h1];exact h2⟩
theorem Xp {X:List Ord} {s:ByteArray} (h:0≤Kp X s):(Yu X s).1=s:=by
 unfold Kp at h
 obtain⟨i,h1,h2⟩:=Jno (d:=J6) h
 have:Yu X s=X.getD i J6:=by unfold Yu Kp;rw[h1,Nat.zero_add];rfl
 rw[this]
 exact X4 h2
section
variable {r:Reg} {e:Ev}
theorem lfT (h:decide (e.2.2.2.1.getD 0 0<r.1)=true):True∧r=Ys r e∧22=Vo r e:=⟨trivial,(Jqe h).1.symm,(Jqe h).2.symm⟩
theorem lfN (h:decide (e.2.2.2.1.getD 0 0<r.1)=false) (h2:(Jt r e.2.1 e.2.2.1 !=0)=true):True∧r=Ys r e∧Jt r e.2.1 e.2.2.1=Vo r e:=⟨trivial,(Jl9 h (bne_iff_ne.mp h2)).1.symm,(Jl9 h (bne_iff_ne.mp h2)).2.symm⟩
theorem lfA {c:Int} {R:Reg} (h:decide (e.2.2.2.1.getD 0 0<r.1)=false) (h2:(Jt r e.2.1 e.2.2.1 !=0)=false) (h3:ckS r e=c) (h4:(c≠0∧(e.2.2.2.1.getD 0 0,r.2)=R)∨(c=0∧Jl r e=R)):True∧R=Ys r e∧c=Vo r e:=by
 rcases h4 with⟨h4,rfl⟩|⟨rfl,rfl⟩
 ·exact⟨trivial,(Kse h h2 (by rw[h3];exact h4)).symm,((Kdm h h2).trans h3).symm⟩
 ·exact⟨trivial,(Ksf h h2 h3).symm,((Kdm h h2).trans h3).symm⟩
theorem Jyc (hr:Jn r) (hc:Jc e=0):e.2.2.1.length=(Jj e.2.1).1.length∧(e.2.2.2.1.length:Int)=(Jj e.2.1).2.1∧r.2.2.1.length≤6∧r.2.2.2.1.length≤32∧r.2.2.2.2.2.1.length≤16∧r.2.2.2.2.2.2.length≤16∧∀i,i<e.2.2.2.1.length→(0≤e.2.2.2.1.getD i 0∧e.2.2.2.1.getD i 0≤999999999):=
 have hE:=K0 hc
 ⟨hE.nn,hE.nv,hr.nS,hr.nO,hr.nX,hr.nQ,fun _ hi=>hE.val _ (Je hi)⟩
theorem fcN {k ns} (a:(Jt r k ns !=0)=false):Km r ns (Jj k).1 0=false:=(Jru (by simpa using a)).1
end
theorem K6u (a b:Bool):(a&&b)=bif a then b else false:=by cases a<;>rfl
theorem rcb:({data:={toList:=[]}}:ByteArray)=Ja:=congrArg (fun x=>x) rfl
theorem rcS (S s):List.getD S (J0 S s).toNat (Ja,0,0)=Ho S s:=congrArg (fun x=>x) rfl
theorem rcO (O s):List.getD O (Kp O s).toNat (Ja,Ja,Ja,(0,0),0,0,0)=Yu O s:=congrArg (fun x=>x) rfl
theorem rcX (X s):List.getD X (J7 X s).toNat (Ja,Ja,(0,0),0)=L5 X s:=congrArg (fun x=>x) rfl
theorem rcQ (Q s):List.getD Q (U2 Q s).toNat (Ja,Ja,false)=Jmi Q s:=congrArg (fun x=>x) rfl
def Z56 (a:List Met):=List.length a<10000
def Jhy (a:Li) (b:Int):=decide (Z85 a<b)
def Jhx (a:List Out):=(0+List.length a)*56≤140737488355328
def Jhw (a:List Sta):=(0+List.length a)*32≤140737488355328
def Jhv (a:List Per):=(0+List.length a)*40≤140737488355328
def Jhu (a:List Ord):=(0+List.length a)*88≤140737488355328
def Jht (a:List Met):=(0+List.length a)*40≤140737488355328
def Jdf (a:Li) (b:Int) (c:List Sta) (d:List Ord) (e:List Met) (f:List Out) (g:List Per):=(Z85 a,b,c,d,e,f,g)
def Js4 (a b:Int) (c:List Sta) (d:List Ord) (e:List Met) (f:List Out) (g:List Per) (h:Ls):=Jx a b c d e f g∧Sf true (List.length h=1)
variable (T:TypeId) (E C:List Ev) (G:List Reg) (tk st:Int) (S:List Sta) (O:List Ord) (M:List Met) (X:List Out) (Q:List Per) (n:Int) (ns:List ByteArray) (vs:List Int) (tx:ByteArray)
theorem Jh3:wpFG Tryz.prog Jss.g L0 (Xu (none)) (Sx.look ([(225,Tryz.f225),(226,Tryz.f226),(227,Tryz.f227)]:List (Nat×Func))) Tryz.f132 Lz ((tk,st,S,O,M,X,Q),(n,Ju,ns,vs,tx),()):=by
 refine(by kernel_rfl:(Jx tk st S O M X Q→Jce X→Z56 M→Jc (Z25 n ns vs tx)=0→Lb Ju Jp=false→Z94 vs∧Br (Jhy vs tk) (Sf true (Z65 tk st S O M X Q=Ys (Z65 tk st S O M X Q) (Z25 n ns vs tx)∧22=Vo (Z65 tk st S O M X Q) (Z25 n ns vs tx))) (Js4 tk st S O M X Q ns∧Br (Jt (Z65 tk st S O M X Q) Ju ns !=0) (Sf true (Z65 tk st S O M X Q=Ys (Z65 tk st S O M X Q) (Z25 n ns vs tx)∧Jt (Z65 tk st S O M X Q) Ju ns=Vo (Z65 tk st S O M X Q) (Z25 n ns vs tx))) (Jhw S∧Jhu O∧Jht M∧Jhx X∧Jhv Q∧Jqw vs∧Br (Xj (Z87 vs) 1 1000) (Z94 vs∧Sf true (Jdf vs st S O M X Q=Ys (Z65 tk st S O M X Q) (Z25 n ns vs tx)∧3=Vo (Z65 tk st S O M X Q) (Z25 n ns vs tx))) (Br (decide (6≤Ln ([]++S))) (Z94 vs∧Sf true (Jdf vs st S O M X Q=Ys (Z65 tk st S O M X Q) (Z25 n ns vs tx)∧5=Vo (Z65 tk st S O M X Q) (Z25 n ns vs tx))) (Kjz ns vs S∧Z94 vs∧Sf true ((Z85 vs,st,Kkr S ns vs,O,M,X,Q)=Ys (Z65 tk st S O M X Q) (Z25 n ns vs tx)∧0=Vo (Z65 tk st S O M X Q) (Z25 n ns vs tx)))))))=_).mp ?_
 delta Z25 Z29 Z30 Z56 Z65 Z85 Z87 Z91 Z94 Z99 Jqw Jx Jhy Jhx Jhw Jhv Jhu Jht Jdf Js4 Kkr Kjz Br Bd T2 Tw Sf Ln B0 Lb Ju Jp
 intro hr hu hm hc _
 obtain⟨hn,hv,nS,nO,nX,nQ,hx⟩:=Jyc hr hc
 simp only[K2,List.length_cons,List.length_nil] at hn hv nS nO nX nQ hx
 have cE:ckS (tk,st,S,O,M,X,Q) (n,Ju,ns,vs,tx)=Jl5 S vs:=by simp only[ckS,K2]
 have sE:Jl (tk,st,S,O,M,X,Q) (n,Ju,ns,vs,tx)=(vs.getD 0 0,(Ja3 (tk,st,S,O,M,X,Q) (n,Ju,ns,vs,tx)).2):=by simp only[Jl,doS,K2]
 simp only[List.nil_append,rcb,rcS,rcO,rcX,rcQ,Prod.eta]
 repeat' first|exact lfT ‹_›|exact lfN ‹_› ‹_›|exact lfA ‹_› ‹_› (cE.trans (by clear cE sE hx hc;simp only[Jl5,Jh,Hk,List.nil_append, *,cond_true,cond_false,reduceIte,decide_true,decide_false,Bool.not_true,Bool.not_false,Int.reduceEq,Int.reduceNe,ne_eq,not_false_eq_true,not_true_eq_false];first|done|rfl|decide)) (by first|exact .inl ⟨by decide,rfl⟩|exact .inl ⟨bne_iff_ne.mp ‹_›,rfl⟩|exact .inr ⟨rfl,sE.trans (by first|rfl|simp only[Ja3,List.nil_append])⟩)|apply And.intro|intro _
 all_goals first|omega|trivial|assumption
def K0w (a:List Sta) (b:Ls):=Gt ([]++a) (J32 a b) Z9
theorem Jmr:wpFG Tryz.prog Jss.g L0 (Xu (none)) (Sx.look ([(225,Tryz.f225),(226,Tryz.f226),(227,Tryz.f227)]:List (Nat×Func))) Tryz.f132 Lz ((tk,st,S,O,M,X,Q),(n,Ub,ns,vs,tx),()):=by
 refine(by kernel_rfl:(Jx tk st S O M X Q→Jce X→Z56 M→Jc (Z7 n ns vs tx)=0→Lb Ub Jp=false→Z94 vs∧Br (Jhy vs tk) (Sf true (Z65 tk st S O M X Q=Ys (Z65 tk st S O M X Q) (Z7 n ns vs tx)∧22=Vo (Z65 tk st S O M X Q) (Z7 n ns vs tx))) (Js4 tk st S O M X Q ns∧Br (Jt (Z65 tk st S O M X Q) Ub ns !=0) (Sf true (Z65 tk st S O M X Q=Ys (Z65 tk st S O M X Q) (Z7 n ns vs tx)∧Jt (Z65 tk st S O M X Q) Ub ns=Vo (Z65 tk st S O M X Q) (Z7 n ns vs tx))) (Jhw S∧Jhu O∧Jht M∧Jhx X∧Jhv Q∧Jqw vs∧Br (decide (1000<Z87 vs)) (Z94 vs∧Sf true (Jdf vs st S O M X Q=Ys (Z65 tk st S O M X Q) (Z7 n ns vs tx)∧3=Vo (Z65 tk st S O M X Q) (Z7 n ns vs tx))) (T2 (Z99 ns) (Z59 S∧T2 (Z29 vs) (Tw (Bd (J32 S ns) (Ln ([]++S)))))∧Z94 vs∧Sf true ((Z85 vs,st,List.set ([]++S) (Int.toNat (J32 S ns)) ((K0w S ns).1,(K0w S ns).2.1,Z87 vs),O,M,X,Q)=Ys (Z65 tk st S O M X Q) (Z7 n ns vs tx)∧0=Vo (Z65 tk st S O M X Q) (Z7 n ns vs tx))))))=_).mp ?_
 delta Z7 Z9 Z29 Z30 Z56 Z59 Z65 Z85 Z87 Z91 Z94 Z99 Jqw Jx J32 Jhy Jhx Jhw Jhv Jhu Jht Jdf Js4 K0w Br Bd T2 Tw Sf Ln Gt B0 Lb Ub Jp
 intro hr hu hm hc _
 obtain⟨hn,hv,nS,nO,nX,nQ,hx⟩:=Jyc hr hc
 simp only[U7,List.length_cons,List.length_nil] at hn hv nS nO nX nQ hx
 have cE:ckS (tk,st,S,O,M,X,Q) (n,Ub,ns,vs,tx)=Jn4 vs:=by simp only[ckS,U7]
 have sE:Jl (tk,st,S,O,M,X,Q) (n,Ub,ns,vs,tx)=(vs.getD 0 0,(Fm (tk,st,S,O,M,X,Q) (n,Ub,ns,vs,tx)).2):=by simp only[Jl,doS,U7]
 have hp:decide (vs.getD 1 0<0)=false:=decide_eq_false (by have:=hx 1 (by omega);omega)
 have hF:(Jt (tk,st,S,O,M,X,Q) Ub ns !=0)=false→(0≤J0 S (ns.getD 0 Ja)∧J0 S (ns.getD 0 Ja)<S.length):=fun a=>by
  have z:=fcN a
  rw[U7] at z
  obtain⟨k0,z⟩:=Jk z
  exact⟨Jr4 (k0 rfl),K6⟩
 simp only[List.nil_append,rcb,rcS,rcO,rcX,rcQ,Prod.eta]
 repeat' first|exact lfT ‹_›|exact lfN ‹_› ‹_›|exact lfA ‹_› ‹_› (cE.trans (by clear cE sE hF hx hc;simp only[Jn4,Kh,Bool.false_or,Hk,List.nil_append, *,cond_true,cond_false,reduceIte,decide_true,decide_false,Bool.not_true,Bool.not_false,Int.reduceEq,Int.reduceNe,ne_eq,not_false_eq_true,not_true_eq_false];first|done|rfl|decide)) (by first|exact .inl ⟨by decide,rfl⟩|exact .inl ⟨bne_iff_ne.mp ‹_›,rfl⟩|exact .inr ⟨rfl,sE.trans (by first|rfl|simp only[Fm,List.nil_append]|simp only[Fm,Xp (hF ‹_›).1])⟩)|apply And.intro|intro _
 all_goals first|omega|trivial|assumption|(have:=hF ‹_›;omega)
abbrev Jhs (tk st:Int) (S:List Sta) (O:List Ord) (M:List Met) (X:List Out) (Q:List Per) (n:Int) (ns:List ByteArray) (vs:List Int) (tx:ByteArray):Ann:={X:=Nat,σ:=fun k=>⟨30,[(2, .one (.ptr 25 0)),(3, .one (.ptr 26 0)),(4, .one (.ptr 27 0)),(6, .one (.sl 6)),(7, .one (.ptr 28 0)),(8, .one (.int .i64 (vs.getD 1 0+k)))],[(5, .imm 9 .str ns),(6, .imm 3 sI vs),(8, .box 67 [.int .i64 n, .str Kl, .sl 5, .sl 6, .str tx]),(9, .box 37 Jy6),(23, .box 37 [.int .i64 tk, .int .i64 st, .sl 14, .sl 16, .sl 18, .sl 20, .sl 22]),(24, .sus [(3, .one (.ptr 8 0)),(4, .one (.ptr 9 0)),(7, .one (.ptr 23 0))]),(25, .box 37 [.int .i64 tk, .int .i64 st, .sl 14, .sl 16, .sl 18, .sl 20, .sl 22]),(26, .box 67 [.int .i64 n, .str Kl, .sl 5, .sl 6, .str tx]),(27, .box 37 Jy6),(28, .box 117 [.int .i64 (vs.getD 1 0), .int .i64 (vs.getD 2 0)]),(14, .own 114 Fd S),(16, .own 119 Lf O),(18, .own 121 Jah M),(20, .own 123 Zg X),(22, .own 125 Hm Q)]⟩,inv:=fun k=>k≤(vs.getD 2 0-vs.getD 1 0).toNat∧Jvl S O X (n,Kl,ns,vs,tx)=Jsd (fun h=>decide (min (Xo S O X (ns.getD 1 Ja) h) (Xo S O X (ns.getD 2 Ja) h)<vs.getD 3 0)) (vs.getD 1 0+k) ((vs.getD 2 0-vs.getD 1 0).toNat-k),mu:=fun k=>(vs.getD 2 0-vs.getD 1 0).toNat-k}
def Js6 (a:Li) (b:Nat):=Z87 a+Nc b
def Kgh (a:Li) (b:Nat):=Js6 a b+1
def Klt (a:Li):=Int.toNat (Jmc a-Z87 a)
def Klo (a:Li) (b:Nat):=Z87 a=Js6 a b
def Klj (a:Nat) (b:Li):=a≤Klt b
def J9v (a:Li) (b:Nat):=Klt a-b
def Kk7 (a:Li) (b:Nat):=decide (Js6 a b<Jmc a)
def Kkc (a:Li) (b c:Nat):=Kgh a b=Js6 a c
def Kkb (a:Li):=Kc3 (Z85 a) (Z87 a) (Jmc a)
def J9l (a:Li) (b:Int) (c:List Sta) (d:List Ord) (e:List Met) (f:List Out) (g:List Per) (h i:Int) (j:Ls) (k:Bt):=Jdf a b c d e f g=Ys (Z65 h b c d e f g) (Z11 i j a k)
def Ke5 (a:List Sta) (b:List Ord) (c:List Out) (d:Ls) (e:Li) (f:Nat):=decide (Xo a b c (Lg d) (Js6 e f)<Z92 e)=false
def Kim (a:Li) (b c:Nat):=J9v a b<J9v a c
def Kh2 (a:Li):=T2 (Z30 a) ((0≤Z87 a∧Z87 a≤999999999)∧0≤Jmc a∧Jmc a≤999999999)
def Khl (a:Nat) (b:Li) (c:List Sta) (d:List Ord) (e:List Out) (f:Int) (g:Ls) (h:Bt):=Klj a b∧Jvl c d e (Z11 f g b h)=Jsd (fun(h:Int)=>decide (min (Xo c d e (Jj4 g) h) (Xo c d e (J7n g) h)<Z92 b)) (Js6 b a) (J9v b a)
def Khk (a:Bt) (b:Li) (c:List Sta) (d:List Ord) (e:List Met) (f:List Out) (g:List Per):=Sf a (Si 0 (Si 0 (Sf Vi (Sf Vi (Sf Vi (Sf Vi (Sf Vi (Si (Z87 b) (Si (Jmc b) (Sf c (Sf d (Sf e (Sf f (g=g))))))))))))))
def J8l (a:Ls) (b:Li) (c:Int) (d:Bt) (e f:Int) (g:List Sta) (h:List Ord) (i:List Met) (j:List Out) (k:List Per):=Sf a (Sf b (Si c (Sf Kl (Sf d (Si 0 (Si 0 (Sf Vi (Sf Vi (Sf Vi (Sf Vi (Sf Vi (Si e (Si f (Si e (Si f (Si c (Sf Kl (Khk d b g h i j k))))))))))))))))))
theorem Jms:wpFG Tryz.prog Jss.g L0 (Xu (some (Jhs tk st S O M X Q n ns vs tx))) (Sx.look ([(225,Tryz.f225),(226,Tryz.f226),(227,Tryz.f227)]:List (Nat×Func))) Tryz.f132 Lz ((tk,st,S,O,M,X,Q),(n,Kl,ns,vs,tx),()):=by
 refine(by kernel_rfl:(Jx tk st S O M X Q→Jce X→Z56 M→Jc (Z11 n ns vs tx)=0→Lb Kl Jp=false→Z94 vs∧Br (Jhy vs tk) (Sf true (Z65 tk st S O M X Q=Ys (Z65 tk st S O M X Q) (Z11 n ns vs tx)∧22=Vo (Z65 tk st S O M X Q) (Z11 n ns vs tx))) ((Jx tk st S O M X Q∧Sf true (Js8 ns))∧Br (Jt (Z65 tk st S O M X Q) Kl ns !=0) (Sf true (Z65 tk st S O M X Q=Ys (Z65 tk st S O M X Q) (Z11 n ns vs tx)∧Jt (Z65 tk st S O M X Q) Kl ns=Vo (Z65 tk st S O M X Q) (Z11 n ns vs tx))) (Jhw S∧Jhu O∧Jht M∧Jhx X∧Jhv Q∧J91 vs∧T2 (Jd4 ns) (Tw (Z93 ns))∧Br (Kl3 ns) (Z94 vs∧Sf true (J9l vs st S O M X Q tk n ns tx∧24=Vo (Z65 tk st S O M X Q) (Z11 n ns vs tx))) (Kh2 vs∧Br (Kkb vs) (Z94 vs∧Sf true (J9l vs st S O M X Q tk n ns tx∧14=Vo (Z65 tk st S O M X Q) (Z11 n ns vs tx))) (Jy3 vs∧Br (Xj (Z92 vs) 1 1000) (Z94 vs∧Sf true (J9l vs st S O M X Q tk n ns tx∧3=Vo (Z65 tk st S O M X Q) (Z11 n ns vs tx))) (∃(x:Nat),(Klo vs x∧J8l ns vs n tx tk st S O M X Q)∧Khl x vs S O X n ns tx∧∀(x:Nat),Khl x vs S O X n ns tx→Br (Kk7 vs x) (T2 (Jd4 ns) (Jx tk st S O M X Q∧J3v S ns∧T2 (Z28 vs) (T2 (Ke5 S O X ns vs x→Z93 ns) ((Ke5 S O X ns vs x→Jx tk st S O M X Q)∧(Ke5 S O X ns vs x→0≤J0 S (Z88 ns))∧Tw (Ke5 S O X ns vs x→Z28 vs))))∧Br (bif decide (Xo S O X (Lg ns) (Js6 vs x)<Z92 vs) then true else decide (Xo S O X (Z88 ns) (Js6 vs x)<Z92 vs)) (Z94 vs∧Sf true (J9l vs st S O M X Q tk n ns tx∧4=Vo (Z65 tk st S O M X Q) (Z11 n ns vs tx))) (Iw (Kgh vs x)∧∃(y:Nat),(Kkc vs x y∧J8l ns vs n tx tk st S O M X Q)∧Khl y vs S O X n ns tx∧Kim vs y x)) (Br (decide (32≤Ln O)) (Z94 vs∧Sf true (J9l vs st S O M X Q tk n ns tx∧5=Vo (Z65 tk st S O M X Q) (Z11 n ns vs tx))) (T2 (Z99 ns) (T2 (Jd4 ns) (T2 (Z93 ns) (T2 (Z28 vs) (T2 (Jd4 ns) (Z59 S∧T2 (Bd (Jyw S ns) (Ln S)) ((List.length O+1)*88≤140737488355328))))))∧Z94 vs∧Sf true ((Z85 vs,st,S,O++[(Z91 ns,Lg ns,Z88 ns,J9y vs,Z92 vs,(Gt S (Jyw S ns) Z9).2.2,Z69)],M,X,Q)=Ys (Z65 tk st S O M X Q) (Z11 n ns vs tx)∧0=Vo (Z65 tk st S O M X Q) (Z11 n ns vs tx))))))))))=_).mp ?_
 delta Z9 Z11 Z23 Z28 Z29 Z30 Z56 Z59 Z65 Z69 Z85 Z87 Z88 Z91 Z92 Z93 Z94 Z99 Jmc Jy3 Jd4 Lg Jj4 Js8 J7n Jx Vi Jyw Js6 Jhy Jhx Jhw Jhv Jhu Jht J3v Kgh Jdf J91 J9y Kl3 Klt Klo Klj J9v Kk7 Kkc Kkb J9l Ke5 Kim Kh2 Khl Khk J8l Br Iw Bd T2 Tw Sf Si Ln Nc Gt B0 Lb Kl Jp
 intro hr hu hm hc _
 obtain⟨hn,hv,nS,nO,nX,nQ,hx⟩:=Jyc hr hc
 simp only[Un,List.length_cons,List.length_nil] at hn hv nS nO nX nQ hx
 have cE:ckS (tk,st,S,O,M,X,Q) (n,Kl,ns,vs,tx)=Ja8 S O X (n,Kl,ns,vs,tx):=by simp only[ckS,Un]
 have sE:Jl (tk,st,S,O,M,X,Q) (n,Kl,ns,vs,tx)=(vs.getD 0 0,(Fq (tk,st,S,O,M,X,Q) (n,Kl,ns,vs,tx)).2):=by simp only[Jl,doS,Un]
 have hF:(Jt (tk,st,S,O,M,X,Q) Kl ns !=0)=false→(0≤J0 S (ns.getD 1 Ja)∧J0 S (ns.getD 1 Ja)<S.length)∧(0≤J0 S (ns.getD 2 Ja)∧J0 S (ns.getD 2 Ja)<S.length):=fun a=>by
  have z:=fcN a
  rw[Un] at z
  obtain⟨k0,z⟩:=Jk z
  obtain⟨k1,z⟩:=Jk z
  obtain⟨k2,z⟩:=Jk z
  exact⟨⟨Jr4 (k1 rfl),K6⟩,⟨Jr4 (k2 rfl),K6⟩⟩
 have v1:=hx 1 (by omega)
 have v2:=hx 2 (by omega)
 have v3:=hx 3 (by omega)
 have pE:Zc (n,Kl,ns,vs,tx)=bif Kc3 (vs.getD 0 0) (vs.getD 1 0) (vs.getD 2 0) then 14 else 0:=rfl
 simp only[List.nil_append,rcb,rcS,rcO,rcX,rcQ,Prod.eta]
 repeat' first|exact lfT ‹_›|exact lfN ‹_› ‹_›|exact lfA ‹_› ‹_› (cE.trans (by clear cE sE hF hx hc;simp only[Ja8,Ja7,Jh,Hk,List.nil_append, *,cond_true,cond_false,reduceIte,decide_true,decide_false,Bool.not_true,Bool.not_false,Int.reduceEq,Int.reduceNe,ne_eq,not_false_eq_true,not_true_eq_false];first|done|rfl|decide)) (by first|exact .inl ⟨by decide,rfl⟩|exact .inl ⟨bne_iff_ne.mp ‹_›,rfl⟩|exact .inr ⟨rfl,sE.trans (by first|rfl|(simp only[Fq,List.nil_append];done)|simp only[Fq,Xp (hF ‹_›).1])⟩)|(refine⟨(0:Nat),by(repeat' first|exact rfl|exact⟨⟩|apply And.intro|omega|dsimp only;omega),⟨Nat.zero_le _,by simp[Hh,Vt,Jvl]⟩,fun(k:Nat) hk=>⟨fun h1=> ?_,fun h1=> ?_⟩⟩;obtain⟨k1,k2⟩:=hk;replace h1:=of_decide_eq_true h1;rw[Jqb (by omega)] at k2;rw[K54] at k2;rotate_left;obtain⟨k1,k2⟩:=hk;replace h1:=of_decide_eq_false h1;rw[Jqc (by omega)] at k2)|(refine⟨(k+1:Nat),by(repeat' first|exact rfl|exact⟨⟩|apply And.intro|omega|dsimp only;omega),⟨by omega, ?_⟩,by omega⟩;rw[k2,show(bif decide (Xo S O X (ns.getD 1 Ja) (vs.getD 1 0+k)<vs.getD 3 0) then true else decide (Xo S O X (ns.getD 2 Ja) (vs.getD 1 0+k)<vs.getD 3 0))=false from ‹_›];rfl)|apply And.intro|intro _
 all_goals first|omega|trivial|assumption|(have:=hF ‹_›;omega)
def Kf9 (a:List Ord) (b:Ls):=Bd (Jqt a b) (Ln ([]++a))
def Klm (a:List Ord) (b:Ls):=Tw (Kf9 a b)
def J9k (a:Li) (b:Int) (c:List Sta) (d:List Ord) (e:List Met) (f:List Out) (g:List Per) (h i:Int) (j:Ls) (k:Bt):=Jdf a b c d e f g=Ys (Z65 h b c d e f g) (Z12 i j a k)
def Kjd (a:List Ord) (b:Ls):=Gt ([]++a) (Jqt a b) Jde
def J9i (a:List Ord) (b:Ls):=(Kjd a b).1
def Kjb (a:List Ord) (b:Ls):=(Kjd a b).2
def Ki9 (a:List Ord) (b:Ls):=(Kjb a b).2
def Ki8 (a:List Ord) (b:Ls):=(Kjb a b).1
def Ki5 (a:List Ord) (b:Ls):=(Ki9 a b).1
def Ki4 (a:List Ord) (b:Ls):=(Ki9 a b).2
def Ki3 (a:List Ord) (b:Ls):=(Ki4 a b).1
def Ki2 (a:List Ord) (b:Ls):=(Ki4 a b).2
def Ke3 (a:List Ord) (b:Ls):=(Ki2 a b).2
def Ke2 (a:List Ord) (b:Ls):=(Ki2 a b).1
def Ki0 (a:List Ord) (b:Ls):=(Ke3 a b).2
def Kev (a:List Ord) (b:Ls):=E2 (Ki3 a b)
def Kv1 (a:List Ord) (b:Ls) (c:Li):=decide (Ke2 a b<Jmc c)
def Kvs (a:List Ord) (b:Ls) (c:Li):=Kv1 a b c=false
theorem Jmt:wpFG Tryz.prog Jss.g L0 (Xu (none)) (Sx.look ([(225,Tryz.f225),(226,Tryz.f226),(227,Tryz.f227)]:List (Nat×Func))) Tryz.f132 Lz ((tk,st,S,O,M,X,Q),(n,K7,ns,vs,tx),()):=by
 refine(by kernel_rfl:(Jx tk st S O M X Q→Jce X→Z56 M→Jc (Z12 n ns vs tx)=0→Lb K7 Jp=false→Z94 vs∧Br (Jhy vs tk) (Sf true (Z65 tk st S O M X Q=Ys (Z65 tk st S O M X Q) (Z12 n ns vs tx)∧22=Vo (Z65 tk st S O M X Q) (Z12 n ns vs tx))) (Js4 tk st S O M X Q ns∧Br (Jt (Z65 tk st S O M X Q) K7 ns !=0) (Sf true (Z65 tk st S O M X Q=Ys (Z65 tk st S O M X Q) (Z12 n ns vs tx)∧Jt (Z65 tk st S O M X Q) K7 ns=Vo (Z65 tk st S O M X Q) (Z12 n ns vs tx))) (Jhw S∧Jhu O∧Jht M∧Jhx X∧Jhv Q∧T2 (Z99 ns) (Z43 O∧Klm O ns)∧T2 (Z29 vs) (Z94 vs)∧Br (Kls vs) (Z94 vs∧Sf true (J9k vs st S O M X Q tk n ns tx∧11=Vo (Z65 tk st S O M X Q) (Z12 n ns vs tx))) (Jqw vs∧Br (!Ko (Kev O ns) (Z87 vs)) (Z94 vs∧Sf true (J9k vs st S O M X Q tk n ns tx∧14=Vo (Z65 tk st S O M X Q) (Z12 n ns vs tx))) (T2 (Z29 vs) (Z69≤Ki0 O ns)∧Br (!Jr (J9i O ns,Ki8 O ns,Ki5 O ns,Kev O ns,Ke2 O ns,E2 (Ke3 O ns)) (Z87 vs)) (Z94 vs∧Sf true (J9k vs st S O M X Q tk n ns tx∧23=Vo (Z65 tk st S O M X Q) (Z12 n ns vs tx))) (T2 (Z29 vs) (Jx tk st S O M X Q)∧Br (L8 M (J9i O ns) (Z87 vs)).2 (Z94 vs∧Sf true (J9k vs st S O M X Q tk n ns tx∧9=Vo (Z65 tk st S O M X Q) (Z12 n ns vs tx))) (T2 (Z23 vs) (T2 (Kvs O ns vs→Z28 vs) (Tw (Kvs O ns vs→Z23 vs)))∧Br (bif Kv1 O ns vs then true else Klq vs) (Z94 vs∧Sf true (J9k vs st S O M X Q tk n ns tx∧3=Vo (Z65 tk st S O M X Q) (Z12 n ns vs tx))) (Kiz vs M∧Z94 vs∧Sf true ((Z85 vs,st,S,O,M++[(J9i O ns,Kki vs)],X,Q)=Ys (Z65 tk st S O M X Q) (Z12 n ns vs tx)∧0=Vo (Z65 tk st S O M X Q) (Z12 n ns vs tx))))))))))=_).mp ?_
 delta Z12 Z23 Z28 Z29 Z30 Z43 Z56 Z65 Z69 Z73 Z85 Z87 Z91 Z92 Z94 Z99 Jqw Jmc Jx Jqt Jhy Jhx Jhw Jhv Jhu Jht Jdf Jde Kf9 Kls Klq Klm Js4 Kki J9k Kjd J9i Kjb Ki9 Ki8 Ki5 Ki4 Ki3 Ki2 Ke3 Ke2 Ki0 Kiz Kev Kv1 Kvs Br Bd T2 Tw Sf Ln Gt B0 Lb E2 K7 Jp
 intro hr hu hm hc _
 obtain⟨hn,hv,nS,nO,nX,nQ,hx⟩:=Jyc hr hc
 simp only[Ud,List.length_cons,List.length_nil] at hn hv nS nO nX nQ hx
 have cE:ckS (tk,st,S,O,M,X,Q) (n,K7,ns,vs,tx)=Jjy O M ns vs:=by simp only[ckS,Ud]
 have sE:Jl (tk,st,S,O,M,X,Q) (n,K7,ns,vs,tx)=(vs.getD 0 0,(Fr (tk,st,S,O,M,X,Q) (n,K7,ns,vs,tx)).2):=by simp only[Jl,doS,Ud]
 have hF:(Jt (tk,st,S,O,M,X,Q) K7 ns !=0)=false→(0≤Kp O (ns.getD 0 Ja)∧Kp O (ns.getD 0 Ja)<O.length):=fun a=>by
  have z:=fcN a
  rw[Ud] at z
  obtain⟨k0,z⟩:=Jk z
  exact⟨Jyf (k0 rfl),Uu⟩
 have hP:(Jt (tk,st,S,O,M,X,Q) K7 ns !=0)=false→-1≤(Yu O (ns.getD 0 Ja)).2.2.2.2.2.2:=fun a=>(hr.ord _ (F1 (hF a).1)).trip.1
 simp only[List.nil_append,rcb,rcS,rcO,rcX,rcQ,Prod.eta]
 repeat' first|exact lfT ‹_›|exact lfN ‹_› ‹_›|exact lfA ‹_› ‹_› (cE.trans (by have hp:=hP ‹_›;clear cE sE hF hP hx hc;simp only[Jjy,Kq4,Jh,Hk,List.nil_append, *,cond_true,cond_false,reduceIte,decide_true,decide_false,Bool.not_true,Bool.not_false,Int.reduceEq,Int.reduceNe,ne_eq,not_false_eq_true,not_true_eq_false];first|done|rfl|decide)) (by first|exact .inl ⟨by decide,rfl⟩|exact .inl ⟨bne_iff_ne.mp ‹_›,rfl⟩|exact .inr ⟨rfl,sE.trans (by first|rfl|(simp only[Fr,List.nil_append];done)|simp only[Fr,Xp (hF ‹_›).1])⟩)|apply And.intro|intro _
 all_goals first|omega|trivial|assumption|exact hP ‹_›|(have:=hF ‹_›;omega)
def Kww (a:List Ord) (b:Ls):=decide (0≤Ki0 a b)
def Kwg (a:List Ord) (b:Ls):=Kww a b=false
theorem Jq2:wpFG Tryz.prog Jss.g L0 (Xu (none)) (Sx.look ([(225,Tryz.f225),(226,Tryz.f226),(227,Tryz.f227)]:List (Nat×Func))) Tryz.f132 Lz ((tk,st,S,O,M,X,Q),(n,Vp,ns,vs,tx),()):=by
 refine(by kernel_rfl:(Jx tk st S O M X Q→Jce X→Z56 M→Jc (Z3 n ns vs tx)=0→Lb Vp Jp=false→Z94 vs∧Br (Jhy vs tk) (Sf true (Z65 tk st S O M X Q=Ys (Z65 tk st S O M X Q) (Z3 n ns vs tx)∧22=Vo (Z65 tk st S O M X Q) (Z3 n ns vs tx))) (Js4 tk st S O M X Q ns∧Br (Jt (Z65 tk st S O M X Q) Vp ns !=0) (Sf true (Z65 tk st S O M X Q=Ys (Z65 tk st S O M X Q) (Z3 n ns vs tx)∧Jt (Z65 tk st S O M X Q) Vp ns=Vo (Z65 tk st S O M X Q) (Z3 n ns vs tx))) (Jhw S∧Jhu O∧Jht M∧Jhx X∧Jhv Q∧T2 (Z99 ns) (Z43 O)∧T2 (Kf9 O ns) (T2 (Kwg O ns→Kf9 O ns) (Tw (Kwg O ns→Z30 vs)))∧Br (bif Kww O ns then true else decide ((Ki3 O ns).2≤Z85 vs)) (Z94 vs∧Sf true (Jdf vs st S O M X Q=Ys (Z65 tk st S O M X Q) (Z3 n ns vs tx)∧23=Vo (Z65 tk st S O M X Q) (Z3 n ns vs tx))) (T2 (Z30 vs) (Klm O ns)∧Z94 vs∧Sf true ((Z85 vs,st,S,List.set ([]++O) (Int.toNat (Jqt O ns)) (J9i O ns,Ki8 O ns,Ki5 O ns,Kev O ns,Ke2 O ns,(Ke3 O ns).1,Z85 vs),M,X,Q)=Ys (Z65 tk st S O M X Q) (Z3 n ns vs tx)∧0=Vo (Z65 tk st S O M X Q) (Z3 n ns vs tx))))))=_).mp ?_
 delta Z3 Z30 Z43 Z56 Z65 Z73 Z85 Z91 Z94 Z99 Jx Jqt Jhy Jhx Jhw Jhv Jhu Jht Jdf Jde Kf9 Klm Js4 Kjd J9i Kjb Ki9 Ki8 Ki5 Ki4 Ki3 Ki2 Ke3 Ke2 Ki0 Kev Kww Kwg Br Bd T2 Tw Sf Ln Gt B0 Lb E2 Vp Jp
 intro hr hu hm hc _
 obtain⟨hn,hv,nS,nO,nX,nQ,hx⟩:=Jyc hr hc
 simp only[Vd,List.length_cons,List.length_nil] at hn hv nS nO nX nQ hx
 have cE:ckS (tk,st,S,O,M,X,Q) (n,Vp,ns,vs,tx)=Jcy O ns vs:=by simp only[ckS,Vd]
 have sE:Jl (tk,st,S,O,M,X,Q) (n,Vp,ns,vs,tx)=(vs.getD 0 0,(Fl (tk,st,S,O,M,X,Q) (n,Vp,ns,vs,tx)).2):=by simp only[Jl,doS,Vd]
 have hF:(Jt (tk,st,S,O,M,X,Q) Vp ns !=0)=false→(0≤Kp O (ns.getD 0 Ja)∧Kp O (ns.getD 0 Ja)<O.length):=fun a=>by
  have z:=fcN a
  rw[Vd] at z
  obtain⟨k0,z⟩:=Jk z
  exact⟨Jyf (k0 rfl),Uu⟩
 have hP:(Jt (tk,st,S,O,M,X,Q) Vp ns !=0)=false→((Yu O (ns.getD 0 Ja)).2.2.2.2.2.2 != -1)=decide (0≤(Yu O (ns.getD 0 Ja)).2.2.2.2.2.2):=fun a=>by
  have h: -1≤(Yu O (ns.getD 0 Ja)).2.2.2.2.2.2:=(hr.ord _ (F1 (hF a).1)).trip.1
  by_cases q:0≤(Yu O (ns.getD 0 Ja)).2.2.2.2.2.2
  ·rw[decide_eq_true q];exact bne_iff_ne.mpr (by omega)
  ·rw[decide_eq_false q];exact bne_eq_false_iff_eq.mpr (by omega)
 simp only[List.nil_append,rcb,rcS,rcO,rcX,rcQ,Prod.eta]
 repeat' first|exact lfT ‹_›|exact lfN ‹_› ‹_›|exact lfA ‹_› ‹_› (cE.trans (by have hp:=hP ‹_›;clear cE sE hF hP hx hc;simp only[Jcy,Hk,List.nil_append, *,cond_true,cond_false,reduceIte,decide_true,decide_false,Bool.not_true,Bool.not_false,Int.reduceEq,Int.reduceNe,ne_eq,not_false_eq_true,not_true_eq_false];first|done|rfl|decide)) (by first|exact .inl ⟨by decide,rfl⟩|exact .inl ⟨bne_iff_ne.mp ‹_›,rfl⟩|exact .inr ⟨rfl,sE.trans (by first|rfl|simp only[Fl,List.nil_append]|simp only[Fl,Xp (hF ‹_›).1])⟩)|apply And.intro|intro _
 all_goals first|omega|trivial|assumption|exact hP ‹_›|(have:=hF ‹_›;omega)
abbrev Jfz (tk st:Int) (S:List Sta) (O:List Ord) (M:List Met) (X:List Out) (Q:List Per) (n:Int) (ns:List ByteArray) (vs:List Int) (tx:ByteArray):Ann:={X:=Nat,σ:=fun k=>⟨30,[(2, .one (.ptr 25 0)),(3, .one (.ptr 26 0)),(4, .one (.ptr 27 0)),(6, .one (.sl 6)),(7, .one (.ptr 28 0)),(8, .one (.int .i64 (vs.getD 1 0+k)))],[(5, .imm 9 .str ns),(6, .imm 3 sI vs),(8, .box 67 [.int .i64 n, .str Jv, .sl 5, .sl 6, .str tx]),(9, .box 37 Jy6),(23, .box 37 [.int .i64 tk, .int .i64 st, .sl 14, .sl 16, .sl 18, .sl 20, .sl 22]),(24, .sus [(3, .one (.ptr 8 0)),(4, .one (.ptr 9 0)),(7, .one (.ptr 23 0))]),(25, .box 37 [.int .i64 tk, .int .i64 st, .sl 14, .sl 16, .sl 18, .sl 20, .sl 22]),(26, .box 67 [.int .i64 n, .str Jv, .sl 5, .sl 6, .str tx]),(27, .box 37 Jy6),(28, .box 117 [.int .i64 (vs.getD 1 0), .int .i64 (vs.getD 2 0)]),(14, .own 114 Fd S),(16, .own 119 Lf O),(18, .own 121 Jah M),(20, .own 123 Zg X),(22, .own 125 Hm Q)]⟩,inv:=fun k=>k≤(vs.getD 2 0-vs.getD 1 0).toNat∧Hh (Vt (n,Jv,ns,vs,tx)) (fun h=>decide (vs.getD 3 0<Vc O (ns.getD 1 Ja) h))=Jsd (fun h=>decide (vs.getD 3 0<Vc O (ns.getD 1 Ja) h)) (vs.getD 1 0+k) ((vs.getD 2 0-vs.getD 1 0).toNat-k),mu:=fun k=>(vs.getD 2 0-vs.getD 1 0).toNat-k}
def Kfh (a:Li) (b:Int) (c:List Sta) (d:List Ord) (e:List Met) (f:List Out) (g:List Per) (h i:Int) (j:Ls) (k:Bt):=Jdf a b c d e f g=Ys (Z65 h b c d e f g) (Z21 i j a k)
def Khj (a:Nat) (b:Li) (c:Int) (d:Ls) (e:Bt) (f:List Ord):=Klj a b∧(Hh (Vt (Z21 c d b e)) fun(h:Int)=>decide (Z92 b<Vc f (Jj4 d) h))=Jsd (fun(h:Int)=>decide (Z92 b<Vc f (Jj4 d) h)) (Js6 b a) (J9v b a)
def J8k (a:Ls) (b:Li) (c:Int) (d:Bt) (e f:Int) (g:List Sta) (h:List Ord) (i:List Met) (j:List Out) (k:List Per):=Sf a (Sf b (Si c (Sf Jv (Sf d (Si 0 (Si 0 (Sf Vi (Sf Vi (Sf Vi (Sf Vi (Sf Vi (Si e (Si f (Si e (Si f (Si c (Sf Jv (Khk d b g h i j k))))))))))))))))))
theorem Jkg:wpFG Tryz.prog Jss.g L0 (Xu (some (Jfz tk st S O M X Q n ns vs tx))) (Sx.look ([(225,Tryz.f225),(226,Tryz.f226),(227,Tryz.f227)]:List (Nat×Func))) Tryz.f132 Lz ((tk,st,S,O,M,X,Q),(n,Jv,ns,vs,tx),()):=by
 refine(by kernel_rfl:(Jx tk st S O M X Q→Jce X→Z56 M→Jc (Z21 n ns vs tx)=0→Lb Jv Jp=false→Z94 vs∧Br (Jhy vs tk) (Sf true (Z65 tk st S O M X Q=Ys (Z65 tk st S O M X Q) (Z21 n ns vs tx)∧22=Vo (Z65 tk st S O M X Q) (Z21 n ns vs tx))) ((Jx tk st S O M X Q∧Sf true (Jqv ns))∧Br (Jt (Z65 tk st S O M X Q) Jv ns !=0) (Sf true (Z65 tk st S O M X Q=Ys (Z65 tk st S O M X Q) (Z21 n ns vs tx)∧Jt (Z65 tk st S O M X Q) Jv ns=Vo (Z65 tk st S O M X Q) (Z21 n ns vs tx))) (Jhw S∧Jhu O∧Jht M∧Jhx X∧Jhv Q∧J91 vs∧Kh2 vs∧Br (Kkb vs) (Z94 vs∧Sf true (Kfh vs st S O M X Q tk n ns tx∧14=Vo (Z65 tk st S O M X Q) (Z21 n ns vs tx))) (T2 (Z28 vs) (T2 (Jd4 ns) (Z59 S∧Tw (Bd (Jyw S ns) (Ln ([]++S)))))∧Br (decide ((Gt ([]++S) (Jyw S ns) Z9).2.1≤Z92 vs)) (Z94 vs∧Sf true (Kfh vs st S O M X Q tk n ns tx∧3=Vo (Z65 tk st S O M X Q) (Z21 n ns vs tx))) (∃(x:Nat),(Klo vs x∧J8k ns vs n tx tk st S O M X Q)∧Khj x vs n ns tx O∧∀(x:Nat),Khj x vs n ns tx O→Br (Kk7 vs x) (T2 (Jd4 ns) (Jx tk st S O M X Q∧Jy3 vs)∧Br (decide (Z92 vs<Vc O (Lg ns) (Js6 vs x))) (Z94 vs∧Sf true (Kfh vs st S O M X Q tk n ns tx∧24=Vo (Z65 tk st S O M X Q) (Z21 n ns vs tx))) (Iw (Kgh vs x)∧∃(y:Nat),(Kkc vs x y∧J8k ns vs n tx tk st S O M X Q)∧Khj y vs n ns tx O∧Kim vs y x)) (Br (decide (16≤Ln X)) (Z94 vs∧Sf true (Kfh vs st S O M X Q tk n ns tx∧5=Vo (Z65 tk st S O M X Q) (Z21 n ns vs tx))) (T2 (Z99 ns) (T2 (Jd4 ns) (Kld vs X))∧Z94 vs∧Sf true ((Z85 vs,st,S,O,M,X++[(Z91 ns,Lg ns,J9y vs,Z92 vs)],Q)=Ys (Z65 tk st S O M X Q) (Z21 n ns vs tx)∧0=Vo (Z65 tk st S O M X Q) (Z21 n ns vs tx)))))))))=_).mp ?_
 delta Z9 Z21 Z23 Z28 Z29 Z30 Z56 Z59 Z65 Z85 Z87 Z91 Z92 Z94 Z99 Jmc Jy3 Jd4 Lg Jj4 Jqv Jx Vi Jyw Js6 Jhy Jhx Jhw Jhv Jhu Jht Kgh Jdf J91 J9y Klt Klo Klj J9v Kld Kk7 Kkc Kkb Kfh Kim Kh2 Khk Khj J8k Br Iw Bd T2 Tw Sf Si Ln Nc Gt B0 Lb Jv Jp
 intro hr hu hm hc _
 obtain⟨hn,hv,nS,nO,nX,nQ,hx⟩:=Jyc hr hc
 simp only[Ku,List.length_cons,List.length_nil] at hn hv nS nO nX nQ hx
 have cE:ckS (tk,st,S,O,M,X,Q) (n,Jv,ns,vs,tx)=Jb8 S O X (n,Jv,ns,vs,tx):=by simp only[ckS,Ku]
 have sE:Jl (tk,st,S,O,M,X,Q) (n,Jv,ns,vs,tx)=(vs.getD 0 0,(Fo (tk,st,S,O,M,X,Q) (n,Jv,ns,vs,tx)).2):=by simp only[Jl,doS,Ku]
 have hF:(Jt (tk,st,S,O,M,X,Q) Jv ns !=0)=false→(0≤J0 S (ns.getD 1 Ja)∧J0 S (ns.getD 1 Ja)<S.length):=fun a=>by
  have z:=fcN a
  rw[Ku] at z
  obtain⟨k0,z⟩:=Jk z
  obtain⟨k1,z⟩:=Jk z
  exact⟨Jr4 (k1 rfl),K6⟩
 have v1:=hx 1 (by omega)
 have v2:=hx 2 (by omega)
 have v3:=hx 3 (by omega)
 have pE:Zc (n,Jv,ns,vs,tx)=bif Kc3 (vs.getD 0 0) (vs.getD 1 0) (vs.getD 2 0) then 14 else 0:=rfl
 simp only[List.nil_append,rcb,rcS,rcO,rcX,rcQ,Prod.eta]
 repeat' first|exact lfT ‹_›|exact lfN ‹_› ‹_›|exact lfA ‹_› ‹_› (cE.trans (by clear cE sE hF hx hc;simp only[Jb8,Jhp,Jh,Hk,List.nil_append, *,cond_true,cond_false,reduceIte,decide_true,decide_false,Bool.not_true,Bool.not_false,Int.reduceEq,Int.reduceNe,ne_eq,not_false_eq_true,not_true_eq_false];first|done|rfl|decide)) (by first|exact .inl ⟨by decide,rfl⟩|exact .inl ⟨bne_iff_ne.mp ‹_›,rfl⟩|exact .inr ⟨rfl,sE.trans (by first|rfl|(simp only[Fo,List.nil_append];done)|simp only[Fo,Xp (hF ‹_›).1])⟩)|(refine⟨(0:Nat),by(repeat' first|exact rfl|exact⟨⟩|apply And.intro|omega|dsimp only;omega),⟨Nat.zero_le _,by simp[Hh,Vt,Jvl]⟩,fun(k:Nat) hk=>⟨fun h1=> ?_,fun h1=> ?_⟩⟩;obtain⟨k1,k2⟩:=hk;replace h1:=of_decide_eq_true h1;rw[Jqb (by omega)] at k2;skip;rotate_left;obtain⟨k1,k2⟩:=hk;replace h1:=of_decide_eq_false h1;rw[Jqc (by omega)] at k2)|(refine⟨(k+1:Nat),by(repeat' first|exact rfl|exact⟨⟩|apply And.intro|omega|dsimp only;omega),⟨by omega, ?_⟩,by omega⟩;rw[k2,show decide (vs.getD 3 0<Vc O (ns.getD 1 Ja) (vs.getD 1 0+k))=false from ‹_›];rfl)|apply And.intro|intro _
 all_goals first|omega|trivial|assumption|(have:=hF ‹_›;omega)
def Kz1 (a:List Out) (b:Ls):=Gt ([]++a) (Js7 a b) Jgf
def Kzw (a:List Out) (b:Ls) (c:Li):=T2 (Bd (Js7 a b) (Ln ([]++a))) (Z94 c)
def Kzu (a:List Out) (b:Ls):=(Kz1 a b).2
def Kzo (a:List Out) (b:Ls):=(Kzu a b).2
def Kzl (a:List Out) (b:Ls):=(Kzo a b).1
def Kzg (a:List Out) (b:Ls):=(Kzl a b).1
theorem Jh4:wpFG Tryz.prog Jss.g L0 (Xu (none)) (Sx.look ([(225,Tryz.f225),(226,Tryz.f226),(227,Tryz.f227)]:List (Nat×Func))) Tryz.f132 Lz ((tk,st,S,O,M,X,Q),(n,Js,ns,vs,tx),()):=by
 refine(by kernel_rfl:(Jx tk st S O M X Q→Jce X→Z56 M→Jc (Z26 n ns vs tx)=0→Lb Js Jp=false→Z94 vs∧Br (Jhy vs tk) (Sf true (Z65 tk st S O M X Q=Ys (Z65 tk st S O M X Q) (Z26 n ns vs tx)∧22=Vo (Z65 tk st S O M X Q) (Z26 n ns vs tx))) (Js4 tk st S O M X Q ns∧Br (Jt (Z65 tk st S O M X Q) Js ns !=0) (Sf true (Z65 tk st S O M X Q=Ys (Z65 tk st S O M X Q) (Z26 n ns vs tx)∧Jt (Z65 tk st S O M X Q) Js ns=Vo (Z65 tk st S O M X Q) (Z26 n ns vs tx))) (Jhw S∧Jhu O∧Jht M∧Jhx X∧Jhv Q∧T2 (Z99 ns) (Z58 X)∧Kzw X ns vs∧Br (decide (Z85 vs≤Kzg X ns)) (Z94 vs∧Sf true (Jdf vs st S O M X Q=Ys (Z65 tk st S O M X Q) (Z26 n ns vs tx)∧21=Vo (Z65 tk st S O M X Q) (Z26 n ns vs tx))) (Kzw X ns vs∧Br (decide ((Kzl X ns).2≤Z85 vs)) (Z94 vs∧Sf true (Jdf vs st S O M X Q=Ys (Z65 tk st S O M X Q) (Z26 n ns vs tx)∧23=Vo (Z65 tk st S O M X Q) (Z26 n ns vs tx))) (T2 (Z99 ns) (Z50 Q)∧Br (Yd Q (Z91 ns)) (Z94 vs∧Sf true (Jdf vs st S O M X Q=Ys (Z65 tk st S O M X Q) (Z26 n ns vs tx)∧32=Vo (Z65 tk st S O M X Q) (Z26 n ns vs tx))) (T2 (Z30 vs) (Tw (Bd (Js7 X ns) (Ln ([]++X))))∧Z94 vs∧Sf true ((Z85 vs,st,S,O,M,List.set ([]++X) (Int.toNat (Js7 X ns)) ((Kz1 X ns).1,(Kzu X ns).1,(Kzg X ns,Z85 vs),(Kzo X ns).2),Q)=Ys (Z65 tk st S O M X Q) (Z26 n ns vs tx)∧0=Vo (Z65 tk st S O M X Q) (Z26 n ns vs tx))))))))=_).mp ?_
 delta Z26 Z30 Z50 Z56 Z58 Z65 Z85 Z91 Z94 Z99 Jx Jgf Js7 Jhy Jhx Jhw Jhv Jhu Jht Jdf Js4 Kz1 Kzw Kzu Kzo Kzl Kzg Br Bd T2 Tw Sf Ln Gt B0 Lb Js Jp
 intro hr hu hm hc _
 obtain⟨hn,hv,nS,nO,nX,nQ,hx⟩:=Jyc hr hc
 simp only[Kg,List.length_cons,List.length_nil] at hn hv nS nO nX nQ hx
 have cE:ckS (tk,st,S,O,M,X,Q) (n,Js,ns,vs,tx)=Jcz X Q ns vs:=by simp only[ckS,Kg]
 have sE:Jl (tk,st,S,O,M,X,Q) (n,Js,ns,vs,tx)=(vs.getD 0 0,(Fn (tk,st,S,O,M,X,Q) (n,Js,ns,vs,tx)).2):=by simp only[Jl,doS,Kg]
 have hF:(Jt (tk,st,S,O,M,X,Q) Js ns !=0)=false→(0≤J7 X (ns.getD 0 Ja)∧J7 X (ns.getD 0 Ja)<X.length):=fun a=>by
  have z:=fcN a
  rw[Kg] at z
  obtain⟨k0,z⟩:=Jk z
  exact⟨J23 (k0 rfl),Ut⟩
 have hP:(Jt (tk,st,S,O,M,X,Q) Js ns !=0)=false→decide ((0:Int)<((L6 Q).filter fun p=>p.2.1.toList==(L5 X (ns.getD 0 Ja)).1.toList).length)=Yd Q (ns.getD 0 Ja):=fun a=>by rw[Jld (hF a).1];rfl
 simp only[List.nil_append,rcb,rcS,rcO,rcX,rcQ,Prod.eta]
 repeat' first|exact lfT ‹_›|exact lfN ‹_› ‹_›|exact lfA ‹_› ‹_› (cE.trans (by have hp:=hP ‹_›;clear cE sE hF hP hx hc;simp only[Jcz,Jh,Hk,List.nil_append, *,cond_true,cond_false,reduceIte,decide_true,decide_false,Bool.not_true,Bool.not_false,Int.reduceEq,Int.reduceNe,ne_eq,not_false_eq_true,not_true_eq_false];first|done|rfl|decide)) (by first|exact .inl ⟨by decide,rfl⟩|exact .inl ⟨bne_iff_ne.mp ‹_›,rfl⟩|exact .inr ⟨rfl,sE.trans (by first|rfl|simp only[Fn,List.nil_append]|simp only[Fn,Xp (hF ‹_›).1])⟩)|apply And.intro|intro _
 all_goals first|omega|trivial|assumption|exact hP ‹_›|(have:=hF ‹_›;omega)
theorem Jkf:wpFG Tryz.prog Jss.g L0 (Xu (none)) (Sx.look ([(225,Tryz.f225),(226,Tryz.f226),(227,Tryz.f227)]:List (Nat×Func))) Tryz.f132 Lz ((tk,st,S,O,M,X,Q),(n,Kf,ns,vs,tx),()):=by
 refine(by kernel_rfl:(Jx tk st S O M X Q→Jce X→Z56 M→Jc (Z18 n ns vs tx)=0→Lb Kf Jp=false→Z94 vs∧Br (Jhy vs tk) (Sf true (Z65 tk st S O M X Q=Ys (Z65 tk st S O M X Q) (Z18 n ns vs tx)∧22=Vo (Z65 tk st S O M X Q) (Z18 n ns vs tx))) ((Jx tk st S O M X Q∧Sf true (Jqv ns))∧Br (Jt (Z65 tk st S O M X Q) Kf ns !=0) (Sf true (Z65 tk st S O M X Q=Ys (Z65 tk st S O M X Q) (Z18 n ns vs tx)∧Jt (Z65 tk st S O M X Q) Kf ns=Vo (Z65 tk st S O M X Q) (Z18 n ns vs tx))) (Jhw S∧Jhu O∧Jht M∧Jhx X∧Jhv Q∧T2 (Jd4 ns) (Z58 X∧T2 (Bd (J7 X (Lg ns)) (Ln ([]++X))) (Z94 vs))∧Br (!Ko (E2 (Gt ([]++X) (J7 X (Lg ns)) Jgf).2.2.1) (Z85 vs)) (Z94 vs∧Sf true (Jdf vs st S O M X Q=Ys (Z65 tk st S O M X Q) (Z18 n ns vs tx)∧22=Vo (Z65 tk st S O M X Q) (Z18 n ns vs tx))) (Br (decide (16≤Ln ([]++Q))) (Z94 vs∧Sf true (Jdf vs st S O M X Q=Ys (Z65 tk st S O M X Q) (Z18 n ns vs tx)∧5=Vo (Z65 tk st S O M X Q) (Z18 n ns vs tx))) (Kjm ns Q∧Z94 vs∧Sf true ((Z85 vs,st,S,O,M,Kkp X Q ns)=Ys (Z65 tk st S O M X Q) (Z18 n ns vs tx)∧0=Vo (Z65 tk st S O M X Q) (Z18 n ns vs tx)))))))=_).mp ?_
 delta Z18 Z30 Z56 Z58 Z65 Z85 Z91 Z94 Z99 Jd4 Lg Jqv Jx Jgf Jhy Jhx Jhw Jhv Jhu Jht Jdf Kkp Kjm Br Bd T2 Tw Sf Ln Gt B0 Lb E2 Kf Jp
 intro hr hu hm hc _
 obtain⟨hn,hv,nS,nO,nX,nQ,hx⟩:=Jyc hr hc
 simp only[Kz,List.length_cons,List.length_nil] at hn hv nS nO nX nQ hx
 have cE:ckS (tk,st,S,O,M,X,Q) (n,Kf,ns,vs,tx)=Jc0 X Q ns vs:=by simp only[ckS,Kz]
 have sE:Jl (tk,st,S,O,M,X,Q) (n,Kf,ns,vs,tx)=(vs.getD 0 0,(Fp (tk,st,S,O,M,X,Q) (n,Kf,ns,vs,tx)).2):=by simp only[Jl,doS,Kz]
 have hF:(Jt (tk,st,S,O,M,X,Q) Kf ns !=0)=false→(0≤J7 X (ns.getD 1 Ja)∧J7 X (ns.getD 1 Ja)<X.length):=fun a=>by
  have z:=fcN a
  rw[Kz] at z
  obtain⟨k0,z⟩:=Jk z
  obtain⟨k1,z⟩:=Jk z
  exact⟨J23 (k1 rfl),Ut⟩
 simp only[List.nil_append,rcb,rcS,rcO,rcX,rcQ,Prod.eta]
 repeat' first|exact lfT ‹_›|exact lfN ‹_› ‹_›|exact lfA ‹_› ‹_› (cE.trans (by clear cE sE hF hx hc;simp only[Jc0,Jh,Hk,List.nil_append, *,cond_true,cond_false,reduceIte,decide_true,decide_false,Bool.not_true,Bool.not_false,Int.reduceEq,Int.reduceNe,ne_eq,not_false_eq_true,not_true_eq_false];first|done|rfl|decide)) (by first|exact .inl ⟨by decide,rfl⟩|exact .inl ⟨bne_iff_ne.mp ‹_›,rfl⟩|exact .inr ⟨rfl,sE.trans (by first|rfl|simp only[Fp,List.nil_append]|simp only[Fp,Xp (hF ‹_›).1])⟩)|apply And.intro|intro _
 all_goals first|omega|trivial|assumption|(have:=hF ‹_›;omega)
def K1h (a:List Per) (b:Ls):=Tw (Bd (Jsi a b) (Ln ([]++a)))
def K1a (a:List Per) (b:Ls):=Gt ([]++a) (Jsi a b) (B0,B0,false)
def K09 (a:List Per) (b:Ls):=(K1a a b).2
theorem Jke:wpFG Tryz.prog Jss.g L0 (Xu (none)) (Sx.look ([(225,Tryz.f225),(226,Tryz.f226),(227,Tryz.f227)]:List (Nat×Func))) Tryz.f132 Lz ((tk,st,S,O,M,X,Q),(n,Ke,ns,vs,tx),()):=by
 refine(by kernel_rfl:(Jx tk st S O M X Q→Jce X→Z56 M→Jc (Z17 n ns vs tx)=0→Lb Ke Jp=false→Z94 vs∧Br (Jhy vs tk) (Sf true (Z65 tk st S O M X Q=Ys (Z65 tk st S O M X Q) (Z17 n ns vs tx)∧22=Vo (Z65 tk st S O M X Q) (Z17 n ns vs tx))) (Js4 tk st S O M X Q ns∧Br (Jt (Z65 tk st S O M X Q) Ke ns !=0) (Sf true (Z65 tk st S O M X Q=Ys (Z65 tk st S O M X Q) (Z17 n ns vs tx)∧Jt (Z65 tk st S O M X Q) Ke ns=Vo (Z65 tk st S O M X Q) (Z17 n ns vs tx))) (Jhw S∧Jhu O∧Jht M∧Jhx X∧Jhv Q∧T2 (Z99 ns) (Z50 Q)∧K1h Q ns∧Br (!(K09 Q ns).2) (Z94 vs∧Sf true (Jdf vs st S O M X Q=Ys (Z65 tk st S O M X Q) (Z17 n ns vs tx)∧23=Vo (Z65 tk st S O M X Q) (Z17 n ns vs tx))) (K1h Q ns∧Z94 vs∧Sf true ((Z85 vs,st,S,O,M,X,List.set ([]++Q) (Int.toNat (Jsi Q ns)) ((K1a Q ns).1,(K09 Q ns).1,false))=Ys (Z65 tk st S O M X Q) (Z17 n ns vs tx)∧0=Vo (Z65 tk st S O M X Q) (Z17 n ns vs tx))))))=_).mp ?_
 delta Z17 Z30 Z50 Z56 Z65 Z85 Z91 Z94 Z99 Jx Jsi Jhy Jhx Jhw Jhv Jhu Jht Jdf K1h K1a K09 Js4 Br Bd T2 Tw Sf Ln Gt B0 Lb Ke Jp
 intro hr hu hm hc _
 obtain⟨hn,hv,nS,nO,nX,nQ,hx⟩:=Jyc hr hc
 simp only[Ky,List.length_cons,List.length_nil] at hn hv nS nO nX nQ hx
 have cE:ckS (tk,st,S,O,M,X,Q) (n,Ke,ns,vs,tx)=Jn3 Q ns:=by simp only[ckS,Ky]
 have sE:Jl (tk,st,S,O,M,X,Q) (n,Ke,ns,vs,tx)=(vs.getD 0 0,(Jgs (tk,st,S,O,M,X,Q) (n,Ke,ns,vs,tx)).2):=by simp only[Jl,doS,Ky]
 have hF:(Jt (tk,st,S,O,M,X,Q) Ke ns !=0)=false→(0≤U2 Q (ns.getD 0 Ja)∧U2 Q (ns.getD 0 Ja)<Q.length):=fun a=>by
  have z:=fcN a
  rw[Ky] at z
  obtain⟨k0,z⟩:=Jk z
  exact⟨Khd (k0 rfl),U0⟩
 simp only[List.nil_append,rcb,rcS,rcO,rcX,rcQ,Prod.eta]
 repeat' first|exact lfT ‹_›|exact lfN ‹_› ‹_›|exact lfA ‹_› ‹_› (cE.trans (by clear cE sE hF hx hc;simp only[Jn3,Hk,List.nil_append, *,cond_true,cond_false,reduceIte,decide_true,decide_false,Bool.not_true,Bool.not_false,Int.reduceEq,Int.reduceNe,ne_eq,not_false_eq_true,not_true_eq_false];first|done|rfl|decide)) (by first|exact .inl ⟨by decide,rfl⟩|exact .inl ⟨bne_iff_ne.mp ‹_›,rfl⟩|exact .inr ⟨rfl,sE.trans (by first|rfl|simp only[Jgs,List.nil_append]|simp only[Jgs,Xp (hF ‹_›).1])⟩)|apply And.intro|intro _
 all_goals first|omega|trivial|assumption|(have:=hF ‹_›;omega)
abbrev Jfy (tk st:Int) (S:List Sta) (O:List Ord) (M:List Met) (X:List Out) (Q:List Per) (n:Int) (ns:List ByteArray) (vs:List Int) (tx:ByteArray):Ann:={X:=Nat,σ:=fun k=>⟨30,[(2, .one (.ptr 25 0)),(3, .one (.ptr 26 0)),(4, .one (.ptr 27 0)),(6, .one (.sl 6)),(11, .one (.int .i64 k))],[(5, .imm 9 .str ns),(6, .imm 3 sI vs),(8, .box 67 [.int .i64 n, .str Jd, .sl 5, .sl 6, .str tx]),(9, .box 37 Jy6),(23, .box 37 [.int .i64 tk, .int .i64 st, .sl 14, .sl 16, .sl 18, .sl 20, .sl 22]),(24, .sus [(3, .one (.ptr 8 0)),(4, .one (.ptr 9 0)),(7, .one (.ptr 23 0))]),(25, .box 37 [.int .i64 tk, .int .i64 st, .sl 14, .sl 16, .sl 18, .sl 20, .sl 22]),(26, .box 67 [.int .i64 n, .str Jd, .sl 5, .sl 6, .str tx]),(27, .box 37 Jy6),(14, .imm 114 Fd S),(16, .imm 119 Lf O),(18, .imm 121 Jah M),(20, .imm 123 Zg X),(22, .imm 125 Hm Q)]⟩,inv:=fun k=>k≤X.length∧(X.any fun x=>decide (x.2.2.1.2≤vs.getD 1 0)&&Yd Q x.1)=((X.drop k).any fun x=>decide (x.2.2.1.2≤vs.getD 1 0)&&Yd Q x.1),mu:=fun k=>X.length-k}
def Kz5 (a:List Out) (b:Nat) (c:Li):=decide ((J3t a b).1.2≤Z87 c)
def Kzd (a:List Out) (b:Nat) (c:Li):=Kz5 a b c=true
def Khy (a:Nat) (b:List Out) (c:Li) (d:List Per):=a≤List.length b∧(List.any b fun(x:Out)=>decide (x.2.2.1.2≤Z87 c)&&Yd d x.1)=List.any (List.drop a b) fun(x:Out)=>decide (x.2.2.1.2≤Z87 c)&&Yd d x.1
def Ku4 (a:Li) (b:Int) (c:List Sta) (d:List Ord) (e:List Met) (f:List Out) (g:List Per) (h i:Int) (j:Ls) (k:Bt):=Z94 a∧Sf true (Jdf a b c d e f g=Ys (Z65 h b c d e f g) (Z15 i j a k)∧32=Vo (Z65 h b c d e f g) (Z15 i j a k))
def Ktf (a:Ls) (b:Li) (c:Int) (d:Bt) (e f:Int) (g:List Sta) (h:List Ord) (i:List Met) (j:List Out) (k:List Per):=Sf a (Sf b (Si c (Sf Jd (Sf d (Si 0 (Si 0 (Sf Vi (Sf Vi (Sf Vi (Sf Vi (Sf Vi (Si e (Si f (Si e (Si f (Si c (Sf Jd (Sf d (Si 0 (Si 0 (Sf Vi (Sf Vi (Sf Vi (Sf Vi (Sf Vi (Sf g (Sf h (Sf i (Sf j (k=k))))))))))))))))))))))))))))))
theorem Jkd:wpFG Tryz.prog Jss.g L0 (Xu (some (Jfy tk st S O M X Q n ns vs tx))) (Sx.look ([(225,Tryz.f225),(226,Tryz.f226),(227,Tryz.f227)]:List (Nat×Func))) Tryz.f132 Lz ((tk,st,S,O,M,X,Q),(n,Jd,ns,vs,tx),()):=by
 refine(by kernel_rfl:(Jx tk st S O M X Q→Jce X→Z56 M→Jc (Z15 n ns vs tx)=0→Lb Jd Jp=false→Z94 vs∧Br (Jhy vs tk) (Sf true (Z65 tk st S O M X Q=Ys (Z65 tk st S O M X Q) (Z15 n ns vs tx)∧22=Vo (Z65 tk st S O M X Q) (Z15 n ns vs tx))) ((Jx tk st S O M X Q∧Sf true (List.length ns=0))∧Br (Jt (Z65 tk st S O M X Q) Jd ns !=0) (Sf true (Z65 tk st S O M X Q=Ys (Z65 tk st S O M X Q) (Z15 n ns vs tx)∧Jt (Z65 tk st S O M X Q) Jd ns=Vo (Z65 tk st S O M X Q) (Z15 n ns vs tx))) (Jhw S∧Jhu O∧Jht M∧Jhx X∧Jhv Q∧T2 (Z29 vs) (T2 (Kgo vs st=false→Z29 vs) (Kks vs st))∧Br (Kja vs st) (Z94 vs∧Sf true (Jdf vs st S O M X Q=Ys (Z65 tk st S O M X Q) (Z15 n ns vs tx)∧14=Vo (Z65 tk st S O M X Q) (Z15 n ns vs tx))) (T2 (Z29 vs) (Jx tk st S O M X Q)∧Br (decide (0<Ln (Kj M (Z87 vs) O))) (Ku4 vs st S O M X Q tk n ns tx) (∃(x:Nat),(0=Nc x∧Ktf ns vs n tx tk st S O M X Q)∧Khy x X vs Q∧∀(x:Nat),Khy x X vs Q→Br (Js9 x X) (T2 (Z22 x X) (T2 (Z29 vs) (T2 (Kzd X x vs→Z22 x X) (Kzd X x vs→Z50 Q)))∧Br (bif Kz5 X x vs then Yd Q (J1p X x) else false) (Ku4 vs st S O M X Q tk n ns tx) (Z19 x∧∃(y:Nat),(Z95 x y∧Ktf ns vs n tx tk st S O M X Q)∧Khy y X vs Q∧Jyv X y x)) (Jqw vs∧Z94 vs∧Sf true ((Z85 vs,Z87 vs,S,O,M,X,Q)=Ys (Z65 tk st S O M X Q) (Z15 n ns vs tx)∧0=Vo (Z65 tk st S O M X Q) (Z15 n ns vs tx))))))))=_).mp ?_
 delta Z15 Z19 Z22 Z29 Z30 Z50 Z56 Z65 Z85 Z87 Z94 Z95 Jqw Js9 Jx Vi Jgf Jhy Kgo Jyv Jhx Jhw Jhv Jhu Jht J1q Jdf J1p J3t Kks Kz5 Kzd Kja Khy Ku4 Ktf Br Iw Bd T2 Tw Sf Si Ln Nc B0 Lb Jd Jp
 intro hr hu hm hc _
 obtain⟨hn,hv,nS,nO,nX,nQ,hx⟩:=Jyc hr hc
 simp only[Kt,List.length_cons,List.length_nil] at hn hv nS nO nX nQ hx
 have cE:ckS (tk,st,S,O,M,X,Q) (n,Jd,ns,vs,tx)=Zu st O M X Q vs:=by simp only[ckS,Kt]
 have sE:Jl (tk,st,S,O,M,X,Q) (n,Jd,ns,vs,tx)=(vs.getD 0 0,(Ja2 (tk,st,S,O,M,X,Q) (n,Jd,ns,vs,tx)).2):=by simp only[Jl,doS,Kt]
 have lE:=J5a (Q:=Q) (u:=vs.getD 1 0) hu hr.per
 have v1:=hx 1 (by omega)
 simp only[List.nil_append,rcb,rcS,rcO,rcX,rcQ,Prod.eta]
 repeat' first|exact lfT ‹_›|exact lfN ‹_› ‹_›|exact lfA ‹_› ‹_› (cE.trans (by clear cE sE hx hc;simp only[Zu,Bool.true_or,Bool.false_or,Hk,List.nil_append, *,cond_true,cond_false,reduceIte,decide_true,decide_false,Bool.not_true,Bool.not_false,Int.reduceEq,Int.reduceNe,ne_eq,not_false_eq_true,not_true_eq_false];first|done|rfl|decide)) (by first|exact .inl ⟨by decide,rfl⟩|exact .inl ⟨bne_iff_ne.mp ‹_›,rfl⟩|exact .inr ⟨rfl,sE.trans (by first|rfl|simp only[Ja2,List.nil_append])⟩)|(refine⟨(0:Nat),by(repeat' first|exact rfl|exact⟨⟩|apply And.intro|omega|dsimp only;omega),⟨Nat.zero_le _,rfl⟩,fun(k:Nat) hk=>⟨fun h1=> ?_,fun h1=> ?_⟩⟩;obtain⟨k1,k2⟩:=hk;replace h1:=of_decide_eq_true h1;rw[Jz (d:=(Ja,Ja,(0,0),0)) (by omega),List.any_cons] at k2;rw[K6u] at k2;rotate_left;obtain⟨k1,k2⟩:=hk;replace h1:=of_decide_eq_false h1;rw[List.drop_eq_nil_of_le (by omega),List.any_nil] at k2)|(refine⟨(k+1:Nat),by(repeat' first|exact rfl|exact⟨⟩|apply And.intro|omega|dsimp only;omega),⟨by omega, ?_⟩,by omega⟩;rw[k2,show(bif decide ((X.getD k (Ja,Ja,(0,0),0)).2.2.1.2≤vs.getD 1 0) then Yd Q (X.getD k (Ja,Ja,(0,0),0)).1 else false)=false from ‹_›];rfl)|apply And.intro|intro _
 all_goals first|omega|trivial|assumption
def Jsv (k:ByteArray):Nat:=if k=Jv then 1 else if k=Kl then 2 else if k=Jd then 3 else 0
def Jw6 (tk st:Int) (S:List Sta) (O:List Ord) (M:List Met) (X:List Out) (Q:List Per) (n:Int) (ns:List ByteArray) (vs:List Int) (tx:ByteArray):Nat→Option Ann
 |1=>some (Jfz tk st S O M X Q n ns vs tx)
 |2=>some (Jhs tk st S O M X Q n ns vs tx)
 |3=>some (Jfy tk st S O M X Q n ns vs tx)
 |_=>none
def Jw7:ATup [Zx,aEv]→Option Ann
 |((tk,st,S,O,M,X,Q),(n,k,ns,vs,tx),())=>Jw6 tk st S O M X Q n ns vs tx (Jsv k)
theorem Jza {Γ:Gam} {ann:Nat→Option Ann} {annF:FuncId→Nat→Option Ann} {lib:FuncId→Option Func} {fn:Func} {c:Con} {x:ATup c.args} (hb:fn.body.isSome=true) (h:Ur (c.pre x)→wpFG Tryz.prog Γ ann annF lib fn c x):wpFG Tryz.prog Γ ann annF lib fn c x:=by
 unfold wpFG at h⊢
 cases hc:fn.body with
 |none=>rw[hc] at hb;cases hb
 |some code=>
  rw[hc] at h
  exact Jax h
theorem Fc {tk st:Int} {S:List Sta} {O:List Ord} {M:List Met} {X:List Out} {Q:List Per} {n:Int} {k:ByteArray} {ns:List ByteArray} {vs:List Int} {tx:ByteArray} {i:Nat} (h:Jsv k=i):Jw7 ((tk,st,S,O,M,X,Q),(n,k,ns,vs,tx),())=Jw6 tk st S O M X Q n ns vs tx i:=by rw[←h];rfl
theorem Kng:∀x:ATup [Zx,aEv],wpFG Tryz.prog Jss.g L0 (Xu (Jw7 x)) (Sx.look ([(225,Tryz.f225),(226,Tryz.f226),(227,Tryz.f227)]:List (Nat×Func))) Tryz.f132 Lz x
 | ((tk, st, S, O, M, X, Q), (n, k, ns, vs, tx), ()) => by
  refine Jza (by kernel_rfl) fun hp=> ?_
  have hc:Jc (n,k,ns,vs,tx)=0:=hp.2.2.2.1
  rcases U4 (K0 hc).kind with h|h|h|h|h|h|h|h|h|h|h<;>dsimp only at h<;>subst h
  ·have h4:(Jp.toList==Jp.toList)=false:=hp.2.2.2.2
   rw[show(Jp.toList==Jp.toList)=true from by kernel_rfl] at h4
   cases h4
  ·rw[Fc (show Jsv Ju=0 from by kernel_rfl)];exact Jh3 tk st S O M X Q n ns vs tx
  ·rw[Fc (show Jsv Ub=0 from by kernel_rfl)];exact Jmr tk st S O M X Q n ns vs tx
  ·rw[Fc (show Jsv Kl=2 from by kernel_rfl)];exact Jms tk st S O M X Q n ns vs tx
  ·rw[Fc (show Jsv K7=0 from by kernel_rfl)];exact Jmt tk st S O M X Q n ns vs tx
  ·rw[Fc (show Jsv Vp=0 from by kernel_rfl)];exact Jq2 tk st S O M X Q n ns vs tx
  ·rw[Fc (show Jsv Jv=1 from by kernel_rfl)];exact Jkg tk st S O M X Q n ns vs tx
  ·rw[Fc (show Jsv Js=0 from by kernel_rfl)];exact Jh4 tk st S O M X Q n ns vs tx
  ·rw[Fc (show Jsv Kf=0 from by kernel_rfl)];exact Jkf tk st S O M X Q n ns vs tx
  ·rw[Fc (show Jsv Ke=0 from by kernel_rfl)];exact Jke tk st S O M X Q n ns vs tx
  ·rw[Fc (show Jsv Jd=3 from by kernel_rfl)];exact Jkd tk st S O M X Q n ns vs tx
theorem Kqi:Ok Tryz.prog 132 Lz:=Jev mixed Jss.ok (by kernel_rfl) (by kernel_rfl) (Uy (l:=([(225,Tryz.f225),(226,Tryz.f226),(227,Tryz.f227)]:List (Nat×Func))) (List.forall_mem_cons.2 ⟨by kernel_rfl,List.forall_mem_cons.2 ⟨by kernel_rfl,List.forall_mem_cons.2 ⟨by kernel_rfl,by simp⟩⟩⟩)) (fun _=>L0) (fun xx=>Xu (Jw7 xx)) fun xx=>Kng xx
abbrev K2p:=Jss.add Kqi
theorem J6y {h:Kb} {e:Ev} (h1:e.1=(h.1.length:Int)+1) (h2:(e.2.1.toList==Jp.toList)=false):La h e=Vo (J2 h.2.2) e:=by
 unfold La Vo Jt
 rw[bne_eq_false_iff_eq.2 h1,h2]
 dsimp only[cond_false]
 cases h3:decide (e.2.2.2.1.getD 0 0<(J2 h.2.2).1) with
 |true=>rw[if_pos rfl];rfl
 | false =>
  rw[if_neg (by simp)]
  cases h4:Km (J2 h.2.2) e.2.2.1 (Jj e.2.1).1 0 with
  |true=>rw[if_pos (by simp)];rfl
  |false=>
   cases h5:Kx (J2 h.2.2) e.2.2.1 (Jj e.2.1).1 0 with
   |true=>rw[if_pos (by simp)];rfl
   |false=>rw[if_neg (by simp)];rfl
theorem J1j {r:Reg} {e:Ev} (h:Vo r e=0):Ys r e=Jl r e:=by
 unfold Vo at h
 unfold Ys
 by_cases a:decide (e.2.2.2.1.getD 0 0<r.1)=true
 ·rw[if_pos a] at h;exact absurd h (by decide)
 rw[if_neg a] at h⊢
 by_cases b:Jt r e.2.1 e.2.2.1≠0
 ·rw[if_pos b] at h;exact absurd h b
 rw[if_neg b] at h⊢
 rw[if_neg (by rw[h];simp)]
def Jom (h:Kb):Prop:=∀r∈h.2.2,Jce r.2.2.2.2.2.1
theorem Jup {h:Kb} (hu:Jom h):Jce (J2 h.2.2).2.2.2.2.2.1:=by
 unfold J2
 by_cases h0:0<h.2.2.length
 ·exact hu _ (Je (by omega))
 ·have:h.2.2=[]:=List.eq_nil_of_length_eq_zero (by omega)
  rw[this];exact List.nodup_nil
theorem Jze {r:Reg} {e:Ev} (hu:Jce r.2.2.2.2.2.1) (hk:Ym e.2.1=true) (h1:Km r e.2.2.1 (Jj e.2.1).1 0=false) (h2:Kx r e.2.2.1 (Jj e.2.1).1 0=false):Jce (Jl r e).2.2.2.2.2.1:=by
 obtain⟨tk,st,S,O,M,X,Q⟩:=r
 obtain⟨n,k,ns,vs,tx⟩:=e
 have hu:Jce X:=hu
 dsimp only at hk h1 h2
 rcases U4 hk with h|h|h|h|h|h|h|h|h|h|h<;>subst h
 ·simp only[Jl,doS,F6];exact hu
 ·simp only[Jl,doS,K2];exact hu
 ·simp only[Jl,doS,U7];exact hu
 ·simp only[Jl,doS,Un];exact hu
 ·simp only[Jl,doS,Ud];exact hu
 ·simp only[Jl,doS,Vd];exact hu
 ·rw[Ku] at h2
  unfold Kx at h2
  have h3:Vl (tk,st,S,O,M,X,Q) 2 (ns.getD 0 Ja)=false:=by
   cases q:Vl (tk,st,S,O,M,X,Q) 2 (ns.getD 0 Ja) with
   |false=>rfl
   |true=>rw[q] at h2;cases h2
  rw[Jfc] at h3
  have h3:=of_decide_eq_false h3
  simp only[Jl,doS,Ku]
  exact Jq9 hu (by dsimp only at h3⊢;omega)
 ·rw[Kg] at h1
  have h3:=J23 ((Jk h1).1 rfl)
  simp only[Jl,doS,Kg]
  exact J4e hu h3
 ·simp only[Jl,doS,Kz];exact hu
 ·simp only[Jl,doS,Ky];exact hu
 ·simp only[Jl,doS,Kt];exact hu
theorem Jxg {h:Kb} {e:Ev} (hk:(e.2.1.toList==Jp.toList)=false) (ha:La h e=0):Km (J2 h.2.2) e.2.2.1 (Jj e.2.1).1 0=false∧Kx (J2 h.2.2) e.2.2.1 (Jj e.2.1).1 0=false:=by
 obtain⟨n,k,ns,vs,tx⟩:=e
 have:=Lc ((V8 (h:=h) (n:=n) (k:=k) (ns:=ns) (vs:=vs) (tx:=tx) hk).symm.trans ha)
 exact⟨this.2.2.1,this.2.2.2.1⟩
theorem Jxd {h:Kb} {e:Ev} (hu:Jom h) (ha:Kv h e=0):Jom (Ha h e):=by
 obtain⟨hc,hacc⟩:=add_zero ha
 intro r hr
 unfold Ha at hr
 cases hk:e.2.1.toList==Jp.toList with
 |true=>
  rw[hk,cond_true] at hr
  exact hu r (List.mem_of_mem_take hr)
 | false =>
  rw[hk,cond_false] at hr
  rcases V0 hr with hr|hr
  ·exact hu r hr
  ·subst hr
   have:=Jxg hk hacc
   exact Jze (Jup hu) (K0 hc).kind this.1 this.2
def Jpx (l:List Ev):List Ev:=if(Jb l).2.2=0 then(Jb l).1.2.1 else[]
def K57:Con:={args:=[.val false (.list 67 sEv)],ress:=[(false, .list 67 sEv),(true,Jk0),I,I],owns:=[],pre:=fun(l,_)=>[lOk l],spec:=fun(l,_)=>(Jpx l,Ji l,(Jb l).2.1,(Jb l).2.2,())}
abbrev Kc6 (l:List Ev):Ann:={X:=Kb×Nat,σ:=fun(h,i)=>⟨4,[(0, .one (.sl 0)),(3, .one (.ptr 1 0)),(6, .one (.sl 2)),(7, .one (.sl 3)),(8, .one (.int .i64 i))],[(0, .imm 67 sEv l),(1, .box 37 Jy6),(2, .own 67 sEv h.2.1),(3, .own 37 Jk0 (U1::h.2.2))]⟩,inv:=fun(h,i)=>V9 h∧Jom h∧h.1.length=i∧i≤l.length∧l.length≤1000∧Xs h (l.drop i)=Jb l,mu:=fun(_,i)=>l.length-i}
theorem Jvg:Jom V7:=fun _ h=>(by cases h)
theorem K53 {C:List Ev} {G:List Reg} (h:G.length=C.length):(U1::G).getD C.length U1=J2 G:=by
 unfold J2
 rw[←h]
 cases G with
 |nil=>rfl
 |cons a G=>rfl
theorem Ka3 {h:Kb} {e:Ev} {l l':List Ev} {v:Int} (hr:Xs h (e::l')=Jb l) (ha:Kv h e=v) (hv:v≠0):[]=Jpx l∧U1=Ji l∧(h.1.length:Int)+1=(Jb l).2.1∧v=(Jb l).2.2:=by
 unfold Xs at hr
 rw[if_neg (by rw[ha];exact hv),ha] at hr
 refine⟨?_, ?_,by rw[←hr],by rw[←hr]⟩
 ·unfold Jpx;rw[←hr,if_neg (by exact hv)]
 ·unfold Ji;rw[←hr,if_neg (by exact hv)]
theorem Jt1 {h:Kb} {e:Ev} {l l':List Ev} (hr:Xs h (e::l')=Jb l) (ha:Kv h e=0):Xs (Ha h e) l'=Jb l:=by
 unfold Xs at hr
 rwa[if_pos ha] at hr
theorem Kdn {E C:List Ev} {G:List Reg} {e:Ev} {k:Nat} (hk:E.length=k):Kv (E,C,G) e=bif (bif Jc e==0 then e.1 !=(k:Int)+1 else false) then 11 else bif (bif Jc e==0 then e.2.1.toList==Jp.toList else false) then(bif (C.length:Int)==0 then 12 else bif (C.getD (C.length-1) ev0).2.1.toList==Jd.toList then 21 else 0) else bif Jc e==0 then Vo (J2 G) e else Jc e:=by
 subst hk
 unfold Kv
 by_cases hc:Jc e=0
 ·rw[if_neg (by rw[hc];simp),hc,show((0:Int)==0)=true from rfl,cond_true,cond_true,cond_true]
  cases h1:e.1 !=(E.length:Int)+1 with
  |true=>unfold La;rw[h1];rfl
  |false=>
   cases h2:e.2.1.toList==Jp.toList with
   |true=>unfold La;rw[h1,h2];rfl
   |false=>rw[cond_false,cond_false];exact J6y (h:=(E,C,G)) (bne_eq_false_iff_eq.1 h1) h2
 ·rw[if_pos hc,beq_false_of_ne hc,cond_false,cond_false,cond_false];rfl
def Z62 (a:Kb×Nat):=Ln a.1.2.1-1
def K1d (a:List Ev) (b:Kb×Nat):=Lb (J3o a b).1 Jp
def K01:=[Vr]
def Kx2 (a:Kb×Nat):=List.getD (U1::a.1.2.2) (List.length a.1.2.1) Vr
def Kxy (a:Kb×Nat):=(Kx2 a).2
def Kxw (a:Kb×Nat):=(Kxy a).2
def Kxu (a:Kb×Nat):=(Kxw a).2
def Kxt (a:Kb×Nat):=(0+List.length (U1::a.1.2.2))*136≤140737488355328∧(List.length (U1::a.1.2.2)+1)*136≤140737488355328
def Kje (a:Kb×Nat):=(Kxu a).2
def Kxm (a:Kb×Nat):=(Kje a).2
def Kxf (a:Kb×Nat) (b:List Ev):=(0+List.length a.1.2.1)*88≤140737488355328∧T2 (Z31 a b) ((List.length a.1.2.1+1)*88≤140737488355328)
def Kw2 (a:(List Ev×List Ev×List Reg)×Nat) (b:List Ev):=V9 a.1∧Jom a.1∧J64 a b
def Kh3 (a:(List Ev×List Ev×List Reg)×Nat) (b:List Ev) (c:Kb×Nat):=Kw2 a b∧List.length b-a.2<List.length b-c.2
def Kd7 (a:List Ev) (b:Kb×Nat):=Jc (Js2 a b)
def Kd5 (a:List Ev) (b:Kb×Nat):=Kd7 a b==0
def Kug (a:List Ev) (b:Kb×Nat):=Kd5 a b=true
def Kue (a:Kb×Nat) (b:List Ev) (c:(List Ev×List Ev×List Reg)×Nat):=a.1.2.1++[Js2 b a]=c.1.2.1
def Kt7 (a:List Ev) (b:Kb×Nat):=Kug a b→Z31 b a
def Jxz (a:Kb×Nat):=((Kx2 a).1,(Kxy a).1,(Kxw a).1,(Kxu a).1,(Kje a).1,E2 (Kxm a))
def J8f (a:Kb×Nat) (b:List Ev):=Vo (Jxz a) (Js2 b a)
def J8e (a:Kb×Nat) (b:List Ev):=Ys (Jxz a) (Js2 b a)
def J8d (a:Kb×Nat) (b:List Ev):=(J8e a b).2
def J8c (a:Kb×Nat) (b:List Ev):=(J8d a b).2
def J8b (a:Kb×Nat) (b:List Ev):=(J8c a b).2
def J8a (a:Kb×Nat) (b:List Ev):=(J8b a b).2
def Jxw (a:Kb×Nat) (b:List Ev):=Kxf a b∧Kxt a∧Z33 a∧∃(y:(List Ev×List Ev×List Reg)×Nat),(Jqu a y∧Sf b (Si 0 (Si 0 (Sf Vi (Sf Vi (Sf Vi (Sf Vi (Sf Vi (Kue a b y∧U1::(a.1.2.2++K01)=U1::y.1.2.2)))))))))∧Kh3 y b a
def Jxt (a:Kb×Nat) (b:List Ev):=T2 (Bd (Ln a.1.2.1) (Ln (U1::a.1.2.2))) (T2 (Z31 a b) (Jn (Jxz a)∧Jce (Kxm a).1∧List.length (Kje a).1<10000∧Kd7 b a=0∧K1d b a=false))∧Br (J8f a b !=0) (Z33 a∧[]=Jpx b∧Jof b∧J33 a b∧J8f a b=(Jb b).2.2) (Kxf a b∧Kxt a∧Z33 a∧∃(y:(List Ev×List Ev×List Reg)×Nat),(Jqu a y∧Sf b (Si 0 (Si 0 (Sf Vi (Sf Vi (Sf Vi (Sf Vi (Sf Vi (Kue a b y∧U1::(a.1.2.2++[((J8e a b).1,(J8d a b).1,(J8c a b).1,(J8b a b).1,(J8a a b).1,E2 (J8a a b).2)])=U1::y.1.2.2)))))))))∧Kh3 y b a)
def J7o (a:Kb×Nat) (b:List Ev):=Br (Ln a.1.2.1==0) (Br false (Jxt a b) (Br true (Z33 a∧[]=Jpx b∧Jof b∧J33 a b∧12=(Jb b).2.2) (Jxw a b))) ((Iw (Z62 a)∧Tw (Bd (Z62 a) (Ln a.1.2.1)))∧Br (Lb (Gt a.1.2.1 (Z62 a) D9).2.1 Jd) (Br false (Jxt a b) (Br true (Z33 a∧[]=Jpx b∧Jof b∧J33 a b∧21=(Jb b).2.2) (Jxw a b))) ((Iw (Z62 a)∧(0≤Z62 a∧Z62 a≤Ln a.1.2.1)∧0≤Ln a.1.2.1∧Ln a.1.2.1≤Ln (U1::a.1.2.2))∧Z33 a∧∃(y:(List Ev×List Ev×List Reg)×Nat),(Jqu a y∧Sf b (Si 0 (Si 0 (Sf Vi (Sf Vi (Sf Vi (Sf Vi (Sf Vi (List.take (Int.toNat (Z62 a)) a.1.2.1=y.1.2.1∧List.take (List.length a.1.2.1) (U1::a.1.2.2)=U1::y.1.2.2)))))))))∧Kh3 y b a))
theorem K41:Ok Tryz.prog 82 K57:=okW K2p Tryz.f82 (fun xx=>X8 (Kc6 xx.1)) fun xx=>by
 obtain⟨(l:List Ev),_⟩:=xx
 refine(by kernel_rfl:(lOk l→Br (Z90 l) ([]=Jpx l∧Kiq l) (∃(x:(List Ev×List Ev×List Reg)×Nat),(0=Nc x.2∧Sf l (Si 0 (Si 0 (Sf Vi (Sf Vi (Sf Vi (Sf Vi (Sf Vi (List.length x.1.2.1=0∧K01=U1::x.1.2.2)))))))))∧Kw2 x l∧∀(x:Kb×Nat),V9 x.1∧Jom x.1∧J63 x l→Br (Jy1 x l) (T2 (Z31 x l) (List.length (Jyq l x).1≤1000000∧List.length (Jyq l x).2.1≤1000000∧∀(s:ByteArray),s∈(Jyq l x).1→ByteArray.size s≤1000000)∧T2 (Kt7 l x) (Kug l x→Z33 x)∧Br (bif Kd5 l x then(J3r l x).1 !=Nc x.2+1 else false) (Tw (false=true→Z31 x l)∧Br false (J7o x l) (Br false (Jxt x l) (Br true (Z33 x∧[]=Jpx l∧Jof l∧J33 x l∧11=(Jb l).2.2) (Jxw x l)))) (Tw (Kt7 l x)∧Br (bif Kd5 l x then K1d l x else false) (J7o x l) (Br (Kd5 l x) (Jxt x l) (Br (Kd7 l x !=0) (Z33 x∧[]=Jpx l∧Jof l∧J33 x l∧Kd7 l x=(Jb l).2.2) (Jxw x l))))) (Tw (Bd (Ln x.1.2.1) (Ln (U1::x.1.2.2)))∧x.1.2.1=Jpx l∧Jxz x=Ji l∧Kgf l)))=_).mp ?_
 delta Z31 Z33 Z62 Z90 Jy1 Jqu Vi J33 D9 Kgf J3r J3o Jyq L9 Vr K1d K01 Jof Kx2 Kxy Kxw J64 Kxu Kxt J63 Kje Kxm Kxf Kiq Kw2 Kh3 Js2 Kd7 Kd5 Kug Kue Kt7 Jxz J8f J8e J8d J8c J8b J8a Jxw Jxt J7o Br Iw Bd T2 Tw Sf Si Ln Nc Gt B0 Lb E2 Jd Jp
 intro hl
 have hbn:({data:={toList:=[]}}:ByteArray)=Ja:=rfl
 have hev:((0:Int),Ja,([]:List ByteArray),([]:List Int),Ja)=ev0:=rfl
 have hrg:((0:Int),(0:Int),([]:List Sta),([]:List Ord),([]:List Met),([]:List Out),([]:List Per))=U1:=rfl
 have hun:({data:={toList:=[117,110,100,111]}}:ByteArray)=Jp:=rfl
 have hse:({data:={toList:=[115,101,116,116,108,101]}}:ByteArray)=Jd:=rfl
 simp only[hbn,hev,hrg,hun,hse,Prod.eta,Bool.false_eq_true,Bool.true_eq_false,false_implies,true_implies,true_and,and_true]
 refine⟨fun h=> ?_,fun h=>⟨(([],[],[]),(0:Nat)),by(repeat' first|exact rfl|exact⟨⟩|apply And.intro|omega|dsimp only;omega), ?_,fun(x:Kb×Nat) hk=> ?_⟩⟩
 ·have e:Jb l=(V7,0,5):=by unfold Jb;rw[if_pos (by have:=of_decide_eq_true h;omega)]
  refine⟨?_, ?_,by rw[e],by rw[e]⟩
  ·unfold Jpx;rw[e];rfl
  ·unfold Ji;rw[e];rfl
 ·have hn:l.length≤1000:=by have:=of_decide_eq_false h;omega
  exact⟨Xk,Jvg,rfl,Nat.zero_le _,hn,by unfold Jb;rw[if_neg (by omega)];rfl⟩
 ·obtain⟨⟨E,C,G⟩,k⟩:=x
  obtain⟨hI,hU,hk1,hk2,hk3,hk4⟩:=hk
  dsimp only at hI hU hk1 hk2 hk3 hk4⊢
  have hG:G.length=C.length:=hI.ok.nG
  have hC:C.length≤E.length:=hI.ok.nC
  have hN:=K53 hG
  have hR:Jn (J2 G):=Y6 hI.ok
  have hUx:Jce (J2 G).2.2.2.2.2.1:=Jup (h:=(E,C,G)) hU
  have hM:(J2 G).2.2.2.2.1.length≤E.length:=Juq hI
  simp only[hN]
  refine⟨fun hlt=> ?_,fun hge=> ?_⟩
  ·have hlt:(k:Int)<l.length:=of_decide_eq_true hlt
   have hz:=hl.2 _ (Je (d:=ev0) (show k<l.length by omega))
   rw[Jz (d:=ev0) (by omega)] at hk4
   generalize l.getD k ev0=e at*
   have hA:=Kdn (C:=C) (G:=G) (e:=e) hk1
   have hT:((C.length:Int)-1).toNat=C.length-1:=by omega
   rw[hT]
   have hi64:(-9223372036854775808≤(k:Int)+1∧(k:Int)+1≤9223372036854775807):=⟨by omega,by omega⟩
   have hkk:(0≤(k:Int)∧(k:Int)<l.length):=⟨by omega,hlt⟩
   have no:∀v,Kv (E,C,G) e=v→v≠0→[]=Jpx l∧U1=Ji l∧(k:Int)+1=(Jb l).2.1∧v=(Jb l).2.2:=fun v p q=>by
    have:=Ka3 hk4 p q
    dsimp only at this
    rwa[hk1] at this
   have len1:((U1::G).length:Int)=G.length+1:=by simp
   have len2:(U1::G).length=G.length+1:=by simp
   refine⟨⟨hkk,hkk,hz⟩,⟨fun _=>hkk,fun _=>hkk,fun _=>hi64⟩,fun a=>⟨hi64,no 11 (by rw[hA,a];rfl) (by decide)⟩,fun a=>⟨⟨fun _=>hkk,fun _=>hkk⟩,fun b=>⟨fun c=>⟨hi64,no 12 (by rw[hA,a,b,c];rfl) (by decide)⟩,fun c=> ?_⟩,fun b=>⟨fun c=> ?_,fun c=> ?_⟩⟩⟩
   ·have c0:(C.length:Int)≠0:=by simpa using c
    refine⟨⟨⟨by omega,by omega⟩,⟨by omega,by omega⟩,by omega,by omega⟩,fun d=>⟨hi64,no 21 (by rw[hA,a,b,c,d];rfl) (by decide)⟩,fun d=> ?_⟩
    have ha:Kv (E,C,G) e=0:=by rw[hA,a,b,c,d];rfl
    have hu:(e.2.1.toList==Jp.toList)=true:=by
     cases q:Jc e==0 with
     |true=>rw[q] at b;exact b
     |false=>rw[q] at b;cases b
    have eH:Ha (E,C,G) e=(E++[e],C.take (C.length-1),G.take (C.length-1)):=by unfold Ha;rw[hu,cond_true]
    refine⟨⟨⟨by omega,by omega⟩,⟨by omega,by omega⟩,by omega,by omega⟩,hi64,(Ha (E,C,G) e,k+1),⟨by push_cast;rfl,by rw[eH], ?_⟩,⟨Ft hI (by show E.length<1000;omega) ha,Jxd hU ha,by rw[Xl];show E.length+1=k+1;omega,by show k+1≤l.length;omega,hk3,Jt1 hk4 ha⟩,by show l.length-(k+1)<_;omega⟩
    rw[eH]
    have q:C.length=(C.length-1)+1:=by omega
    show List.take C.length (U1::G)=U1::G.take (C.length-1)
    conv=>lhs;rw[q]
    rfl
   ·have c0:Jc e=0:=by simpa using c
    have hu:(e.2.1.toList==Jp.toList)=false:=by rw[c] at b;exact b
    have hA2:Kv (E,C,G) e=Vo (J2 G) e:=by rw[hA,a,b,c];rfl
    refine⟨⟨⟨by omega,by omega⟩,⟨by omega,by omega⟩,hkk,hkk,hR,hUx,Nat.lt_of_le_of_lt hM (by omega),c0,hu⟩,fun d=>⟨hi64,no _ hA2 (bne_iff_ne.1 d)⟩,fun d=> ?_⟩
    have d0:Vo (J2 G) e=0:=bne_eq_false_iff_eq.1 d
    have ha:=hA2.trans d0
    have eH:Ha (E,C,G) e=(E++[e],C++[e],G++[Jl (J2 G) e]):=by unfold Ha;rw[hu,cond_false]
    refine⟨⟨by omega,hkk,hkk,by omega⟩,⟨by omega,by omega⟩,hi64,(Ha (E,C,G) e,k+1),⟨by push_cast;rfl,by rw[eH],by rw[eH,J1j d0]⟩,⟨Ft hI (by show E.length<1000;omega) ha,Jxd hU ha,by rw[Xl];show E.length+1=k+1;omega,by show k+1≤l.length;omega,hk3,Jt1 hk4 ha⟩,by show l.length-(k+1)<_;omega⟩
   ·have c0:Jc e≠0:=by simpa using c
    exact⟨fun d=>⟨hi64,no _ (by rw[hA,a,b,c];rfl) c0⟩,fun d=>absurd (bne_eq_false_iff_eq.1 d) c0⟩
  ·have hge:=of_decide_eq_false hge
   have:k=l.length:=by omega
   rw[this,List.drop_length,Xs] at hk4
   have eR:Ji l=J2 G:=by unfold Ji;rw[←hk4];rfl
   have eC:Jpx l=C:=by unfold Jpx;rw[←hk4];rfl
   have len1:((U1::G).length:Int)=G.length+1:=by simp
   exact⟨⟨⟨by omega,by omega⟩,by omega,by omega⟩,eC.symm,eR.symm,by rw[←hk4],by rw[←hk4]⟩
abbrev K2o:=K2p.add K41
theorem Jtz {e:Ev} (h:Xn e=true):e.2.1.size≤40∧e.2.2.1.length≤6∧e.2.2.2.1.length≤8∧e.2.2.2.2.size≤200∧∀s∈e.2.2.1,s.size≤40:=by
 unfold Xn at h
 cases q:Jhj e with
 |true=>rw[q] at h;cases h
 |false=>
  rw[q,cond_false] at h
  unfold Jhj at q
  have q1:=bn1 q
  have q2:=bn1 q1.1
  have q3:=bn1 q2.1
  have a1:=of_decide_eq_false q1.2
  have a2:=of_decide_eq_false q2.2
  have a3:=of_decide_eq_false q3.2
  have a4:=of_decide_eq_false q3.1
  refine⟨by omega,by omega,by omega,by omega,fun s hs=> ?_⟩
  have:=List.all_eq_true.1 h s hs
  have:decide (40<(s.size:Int))=false:=by simpa using this
  have:=of_decide_eq_false this
  omega
theorem Jkz {l:List Ev} {n:Int} (hn:n≤1000) (h:Xm l n=true):lOk l∧(l.length:Int)≤n:=by
 unfold Xm at h
 cases q:decide (n<(l.length:Int)) with
 |true=>rw[q] at h;cases h
 |false=>
  rw[q,cond_false] at h
  have q:=of_decide_eq_false q
  refine⟨⟨by omega,fun e he=> ?_⟩,by omega⟩
  have b:=Jtz (List.all_eq_true.1 h e he)
  exact⟨by omega,by omega,fun s hs=>by have:=b.2.2.2.2 s hs;omega⟩
def Kbv:Con:={args:=[.val false (.list 67 sEv)],ress:=[(true,Jk0),I,I],owns:=[],pre:=fun(l,_)=>[lOk l],spec:=fun(l,_)=>(Ji l,(Jb l).2.1,(Jb l).2.2,())}
theorem K5y:Ok Tryz.prog 17 Kbv:=okW K2o Tryz.f17 na fun xx=>by
 obtain⟨(l:List Ev),_⟩:=xx
 refine(by kernel_rfl:(lOk l→lOk l∧J1n l=Ji l∧Si (Jb l).2.1 ((Jb l).2.2=(Jb l).2.2))=_).mp ?_
 delta J1n Si E2
 intro hl
 exact⟨hl,rfl,rfl,rfl⟩
abbrev K2n:=K2o.add K5y
def J1k (l:List Ev) (n:Int):Bool:=bif Xm l n then(Jb l).2.2==0 else false
def Kr9:Con:={args:=[.val false (.list 67 sEv),aI],ress:=[Bo],owns:=[],pre:=fun(_,n,_)=>[n≤1000],spec:=fun(l,n,_)=>(J1k l n,())}
theorem K5i:Ok Tryz.prog 53 Kr9:=okW K2n Tryz.f53 na fun xx=>by
 obtain⟨(l:List Ev),(n:Int),_⟩:=xx
 refine(by kernel_rfl:(n≤1000→n≤1000000∧Br (!Xm l n) (false=J1k l n) (lOk l∧((Jb l).2.2==0)=J1k l n))=_).mp ?_
 delta Br
 intro hn
 refine⟨by omega,fun h=> ?_,fun h=> ?_⟩
 ·have h:Xm l n=false:=by simpa using h
  unfold J1k;rw[h];rfl
 ·have h:Xm l n=true:=by simpa using h
  refine⟨(Jkz hn h).1, ?_⟩
  unfold J1k;rw[h];rfl
abbrev K66:=K2n.add K5i
abbrev K65:=K66
abbrev K64:=K65
abbrev K63:=K64
abbrev K62:=K63
abbrev K61:=K62
abbrev K60:=K61
abbrev K6z:=K60
theorem Jk3 {e:Ev} {l:List Ev} {h:Kb}:Xs h (e::l)=if Kv h e=0 then Xs (Ha h e) l else(h,h.1.length+1,Kv h e):=rfl
abbrev K6y:=K6z
structure K78 (h:Kb) (k:Nat):Prop where
 ok:Jn (J2 (h.2.2.take k))
 uni:Jce (J2 (h.2.2.take k)).2.2.2.2.2.1
 met:(J2 (h.2.2.take k)).2.2.2.2.1.length<10000
abbrev K6x:=K6y
abbrev K6w:=K6x
def Kg3 (s:Int) (x y:Ord):Prop:=(y.1=x.1∧y.2.2.2.1=x.2.2.2.1∧y.2.2.2.2.1=x.2.2.2.2.1∧y.2.2.2.2.2.1=x.2.2.2.2.2.1)∧(y.2.2.2.2.2.2=x.2.2.2.2.2.2∨(x.2.2.2.2.2.2= -1∧s≤y.2.2.2.2.2.2))
structure Jmg (r R:Reg):Prop where
 st:r.2.1≤R.2.1
 len:r.2.2.2.1.length≤R.2.2.2.1.length
 old:∀k,k<r.2.2.2.1.length→Kg3 r.2.1 (r.2.2.2.1.getD k J6) (R.2.2.2.1.getD k J6)
 new:∀k,r.2.2.2.1.length≤k→k<R.2.2.2.1.length→r.2.1≤(R.2.2.2.1.getD k J6).2.2.2.1.1
 met:∃m,R.2.2.2.2.1=r.2.2.2.2.1++m∧∀y∈m,r.2.1≤y.2.1
theorem Jmg.rfl' (r:Reg):Jmg r r:=⟨Int.le_refl _,Nat.le_refl _,fun _ _=>⟨⟨rfl,rfl,rfl,rfl⟩, .inl rfl⟩,fun _ h1 h2=>absurd h2 (by omega),[],(List.append_nil _).symm,fun _ h=>(by cases h)⟩
theorem Dx {r:Reg} {tk tk' st:Int} {S S':List Sta} {O:List Ord} {M:List Met} {X X':List Out} {Q Q':List Per} (h:Jmg r (tk,st,S,O,M,X,Q)):Jmg r (tk',st,S',O,M,X',Q'):=⟨h.st,h.len,h.old,h.new,h.met⟩
theorem J0c {α:Type} {l:List α} {i k:Nat} {x d:α} (h:i<l.length):(l.set i x).getD k d=if i=k then x else l.getD k d:=by
 rw[List.getD_eq_getElem?_getD,List.getD_eq_getElem?_getD,List.getElem?_set]
 by_cases q:i=k
 ·subst q;rw[if_pos rfl,if_pos rfl,if_pos h];rfl
 ·rw[if_neg q,if_neg q]
theorem Kc2 {c:Bool} {v:Int} (h:(bif c then v else 0)=0) (hv:v≠0):c=false:=by
 cases c with
 |false=>rfl
 |true=>exact absurd h hv
theorem Kc1 {a b:Bool} (h:(bif a then true else b)=false):a=false∧b=false:=by
 cases a with
 |true=>cases h
 |false=>exact⟨rfl,h⟩
theorem Jvs {r:Reg} {tk st v:Int} {S:List Sta} {O:List Ord} {M:List Met} {X:List Out} {Q:List Per} {x:Ord} (h:Jmg r (tk,st,S,O,M,X,Q)) (hx:r.2.1≤x.2.2.2.1.1):Jmg r (v,st,S,O++[x],M,X,Q):=by
 have hl:r.2.2.2.1.length≤O.length:=h.len
 refine⟨h.st, ?_,fun k hk=> ?_,fun k h1 h2=> ?_,h.met⟩
 ·show _≤(O++[x]).length;rw[List.length_append];omega
 ·show Kg3 _ _ ((O++[x]).getD k J6);rw[Ll (by omega)];exact h.old k hk
 ·have h2:k<(O++[x]).length:=h2
  rw[List.length_append,List.length_singleton] at h2
  show _≤((O++[x]).getD k J6).2.2.2.1.1
  by_cases q:k<O.length
  ·rw[Ll q];exact h.new k h1 q
  ·have:k=O.length:=by omega
   subst this;rw[Zo];exact hx
theorem Jvt {r:Reg} {tk st v:Int} {S:List Sta} {O:List Ord} {M:List Met} {X:List Out} {Q:List Per} {y:Met} (h:Jmg r (tk,st,S,O,M,X,Q)) (hy:r.2.1≤y.2.1):Jmg r (v,st,S,O,M++[y],X,Q):=by
 obtain⟨m,h1,h2⟩:=h.met
 have h1:M=r.2.2.2.2.1++m:=h1
 refine⟨h.st,h.len,h.old,h.new,m++[y], ?_,fun z hz=> ?_⟩
 ·show M++[y]=_;rw[h1,List.append_assoc]
 ·rcases V0 hz with hz|hz
  ·exact h2 z hz
  ·subst hz;exact hy
theorem J0g {r:Reg} {tk st v w:Int} {S:List Sta} {O:List Ord} {M:List Met} {X:List Out} {Q:List Per} {s:ByteArray} (h:Jmg r (tk,st,S,O,M,X,Q)) (hf:0≤Kp O s) (ht:(Yu O s).2.2.2.2.2.2= -1) (hv:r.2.1≤v):Jmg r (w,st,S,V6 O s v,M,X,Q):=by
 have hl:r.2.2.2.1.length≤O.length:=h.len
 have hi:(Kp O s).toNat<O.length:=by have:=Uu (l:=O) (s:=s);omega
 have e:∀k,(V6 O s v).getD k J6=if(Kp O s).toNat=k then((Yu O s).1,(Yu O s).2.1,(Yu O s).2.2.1,(Yu O s).2.2.2.1,(Yu O s).2.2.2.2.1,(Yu O s).2.2.2.2.2.1,v) else O.getD k J6:=fun k=>by unfold V6;rw[J0c hi]
 have e2:∀k,(Kp O s).toNat=k→O.getD k J6=Yu O s:=fun k q=>by subst q;rfl
 refine⟨h.st, ?_,fun k hk=> ?_,fun k h1 h2=> ?_,h.met⟩
 ·show _≤(V6 O s v).length;unfold V6;rw[List.length_set];exact hl
 ·show Kg3 _ _ ((V6 O s v).getD k J6)
  have o:Kg3 _ _ (O.getD k J6):=h.old k hk
  rw[e]
  by_cases q:(Kp O s).toNat=k
  ·rw[if_pos q]
   rw[e2 k q] at o
   refine⟨o.1, .inr ⟨?_,hv⟩⟩
   rcases o.2 with o2|o2
   ·rw[←o2];exact ht
   ·exact o2.1
  ·rw[if_neg q];exact o
 ·have h2:k<(V6 O s v).length:=h2
  unfold V6 at h2
  rw[List.length_set] at h2
  show _≤((V6 O s v).getD k J6).2.2.2.1.1
  have o:_≤(O.getD k J6).2.2.2.1.1:=h.new k h1 h2
  rw[e]
  by_cases q:(Kp O s).toNat=k
  ·rw[if_pos q];rw[e2 k q] at o;exact o
  ·rw[if_neg q];exact o
theorem J0h {r:Reg} {h:Kb} {e:Ev} (hh:Kd h) (hF:Jmg r (J2 h.2.2)) (hc:Jc e=0) (ha:La h e=0) (hk:(e.2.1.toList==Jp.toList)=false):Jmg r (Jl (J2 h.2.2) e):=by
 obtain⟨n,k,ns,vs,tx⟩:=e
 have hE:=K0 hc
 have eK:=V8 (h:=h) (n:=n) (k:=k) (ns:=ns) (vs:=vs) (tx:=tx) hk
 rw[ha] at eK
 obtain⟨_,z2,z3,z4,z5⟩:=Lc eK.symm
 have hr:=Y6 hh
 clear eK ha z4
 generalize J2 h.2.2=R at*
 obtain⟨tk,st,S,O,M,X,Q⟩:=R
 have z2:¬vs.getD 0 0<tk:=z2
 have hkd:=U4 hE.kind
 have hst:0≤st∧st≤tk:=hr.st
 have hs:r.2.1≤st:=hF.st
 dsimp only at hkd hk
 clear hc hh
 rcases hkd with h|h|h|h|h|h|h|h|h|h|h<;>subst h
 ·exact absurd hk (by rw[show(Jp.toList==Jp.toList)=true from by kernel_rfl];decide)
 ·simp only[Jl,doS,K2];exact Dx hF
 ·simp only[Jl,doS,U7];exact Dx hF
 ·simp only[ckS,Un] at z5
  simp only[Jl,doS,Un]
  refine Jvs hF ?_
  unfold Ja8 at z5
  by_cases q:Ja7 (n,Kl,ns,vs,tx)≠0
  ·rw[if_pos q] at z5;exact absurd z5 q
  have q:Ja7 (n,Kl,ns,vs,tx)=0:=by simpa using q
  unfold Ja7 at q
  have q2:=Kc2 (Lo q).2.1 (by decide)
  have q3:=of_decide_eq_false (Kc1 (Kc1 q2).1).1
  show r.2.1≤vs.getD 1 0
  have q3:¬vs.getD 1 0<vs.getD 0 0:=q3
  omega
 ·simp only[Ud] at z3
  obtain⟨k0,z3⟩:=Jk z3
  have f0:=Jyf (k0 rfl)
  simp only[ckS,Ud] at z5
  simp only[Jl,doS,Ud]
  refine Jvt hF ?_
  show r.2.1≤vs.getD 1 0
  unfold Jjy at z5
  have y1:=Ua.1 z5 (bif !Jr (Yu O (ns.getD 0 Ja)) (vs.getD 1 0) then 23 else 0) (by simp)
  have y2:=Ua.1 z5 (bif decide (0≤Kq M (Yu O (ns.getD 0 Ja)).1 (vs.getD 1 0)) then 9 else 0) (by simp)
  have y1:=Kc2 y1 (by decide)
  have y1:Jr (Yu O (ns.getD 0 Ja)) (vs.getD 1 0)=true:=by simpa using y1
  have y2:=of_decide_eq_false (Kc2 y2 (by decide))
  by_cases q:vs.getD 1 0<st
  ·exact absurd (hr.done _ (F1 f0) _ y1 q) y2
  ·omega
 ·simp only[Vd] at z3
  obtain⟨k0,z3⟩:=Jk z3
  have f0:=Jyf (k0 rfl)
  simp only[ckS,Vd] at z5
  simp only[Jl,doS,Vd]
  have y:=Kc1 (Kc2 z5 (by decide))
  exact J0g hF f0 (bne_eq_false_iff_eq.1 y.1) (by omega)
 ·simp only[Jl,doS,Ku];exact Dx hF
 ·simp only[Jl,doS,Kg];exact Dx hF
 ·simp only[Jl,doS,Kz];exact Dx hF
 ·simp only[Jl,doS,Ky];exact Dx hF
 ·simp only[ckS,Kt] at z5
  simp only[Jl,doS,Kt]
  unfold Zu at z5
  have y:(bif decide (vs.getD 1 0≤st) then true else decide (vs.getD 0 0<vs.getD 1 0))=false:=by
   cases q:(bif decide (vs.getD 1 0≤st) then true else decide (vs.getD 0 0<vs.getD 1 0)) with
   |false=>rfl
   |true=>rw[q] at z5;cases z5
  have y1:=of_decide_eq_false (Kc1 y).1
  exact⟨by show r.2.1≤vs.getD 1 0;omega,hF.len,hF.old,hF.new,hF.met⟩
theorem Jho {s h:Int} {x y:Ord} (hs:0≤s) (hf:Kg3 s x y) (hh:h<s):Jr y h=Jr x h:=by
 obtain⟨⟨_,h2,_,_⟩,h5⟩:=hf
 unfold Jr
 rw[h2]
 rcases h5 with h5|⟨h5,h6⟩
 ·rw[h5]
 ·have a:(y.2.2.2.2.2.2== -1)=false:=by
   have:y.2.2.2.2.2.2≠-1:=by omega
   simpa using this
  rw[h5,a,cond_false,decide_eq_true (show h<y.2.2.2.2.2.2 by omega)]
  rfl
theorem Jvd {α:Type} {p:α→Bool} {m:List α} (hm:∀y∈m,p y=false):∀{l:List α} {k:Nat},Vg p (l++m) k=Vg p l k
 | [], k => by
  show Vg p m k= -1
  induction m generalizing k with
  |nil=>rfl
  |cons y m ih=>
   unfold Vg
   rw[hm y (List.mem_cons_self ..),if_neg (by simp)]
   exact ih (fun z hz=>hm z (List.mem_cons_of_mem _ hz)) _
 |x::l,k=>by
  rw[List.cons_append]
  unfold Vg
  rw[Jvd hm]
theorem J5j {M m:List Met} {s h:Int} {n:ByteArray} (hm:∀y∈m,s≤y.2.1) (hh:h<s):Kq (M++m) n h=Kq M n h:=by
 unfold Kq
 refine Jvd fun y hy=> ?_
 have:=hm y hy
 have e:(y.2.1==h)=false:=by
  have:y.2.1≠h:=by omega
  simpa using this
 rw[e]
 cases(y.1.toList==n.toList)<;>rfl
theorem Jpu {M m:List Met} {s h:Int} {n:ByteArray} (hm:∀y∈m,s≤y.2.1) (hh:h<s) (h0:0≤Kq M n h):Jcs (M++m) n h=Jcs M n h:=by
 unfold Jcs
 rw[J5j hm hh,Ll (by have:=Jav (l:=M) (s:=n) (h:=h);omega)]
theorem Jjo {f g:Ord→H3→H3} {F G:List Ord→H3→H3} (hF0:∀a,F [] a=a) (hF:∀x l a,F (x::l) a=F l (f x a)) (hG0:∀a,G [] a=a) (hG:∀x l a,G (x::l) a=G l (g x a)):∀(l L:List Ord),l.length≤L.length→(∀k,k<l.length→∀a,g (L.getD k J6) a=f (l.getD k J6) a)→(∀k,l.length≤k→k<L.length→∀a,g (L.getD k J6) a=a)→∀a,G L a=F l a
 |[],[],_,_,_,a=>by rw[hF0,hG0]
 |[],y::L,_,h1,h2,a=>by
  rw[hG,show g y a=a from h2 0 (Nat.le_refl _) (Nat.zero_lt_succ _) a]
  exact Jjo hF0 hF hG0 hG [] L (Nat.zero_le _) (fun k hk=>absurd hk (Nat.not_lt_zero _)) (fun k _ hk=>h2 (k+1) (Nat.zero_le _) (Nat.succ_lt_succ hk)) a
 |x::l,[],h,_,_,_=>absurd h (Nat.not_succ_le_zero _)
 |x::l,y::L,h,h1,h2,a=>by
  rw[hF,hG,show g y a=f x a from h1 0 (Nat.zero_lt_succ _) a]
  exact Jjo hF0 hF hG0 hG l L (Nat.le_of_succ_le_succ h) (fun k hk=>h1 (k+1) (Nat.succ_lt_succ hk)) (fun k h3 h4=>h2 (k+1) (Nat.succ_le_succ h3) (Nat.succ_lt_succ h4)) _
theorem J0i {r R:Reg} (hr:Jn r) (hF:Jmg r R) {h:Int} (hh:h<r.2.1) (a:H3):Jdb R.2.2.2.2.1 h R.2.2.2.1 a=Jdb r.2.2.2.2.1 h r.2.2.2.1 a:=by
 obtain⟨m,hM,hm⟩:=hF.met
 rw[hM]
 refine Jjo (f:=Jr1 r.2.2.2.2.1 h) (g:=Jr1 (r.2.2.2.2.1++m) h) (F:=Jdb r.2.2.2.2.1 h) (G:=Jdb (r.2.2.2.2.1++m) h) (fun _=>rfl) (fun _ _ _=>rfl) (fun _=>rfl) (fun _ _ _=>rfl) _ _ hF.len (fun k hk b=> ?_) (fun k h1 h2 b=> ?_) a
 ·have o:=hF.old k hk
  have hmem:r.2.2.2.1.getD k J6∈r.2.2.2.1:=Je hk
  have hc:=Jho hr.st.1 o hh
  unfold Jr1
  rw[hc]
  cases q:Jr (r.2.2.2.1.getD k J6) h with
  |false=>rfl
  |true=>
   obtain⟨⟨h1,h2,h3,h4⟩,_⟩:=o
   rw[cond_true,cond_true,h1,h3,h4,Jpu hm hh (hr.done _ hmem _ q hh)]
 ·have:=hF.new k h1 h2
  have q:Jr (R.2.2.2.1.getD k J6) h=false:=by
   unfold Jr Ko
   rw[decide_eq_false (by omega)]
   rfl
  unfold Jr1
  rw[q];rfl
theorem J0j {r R:Reg} (hr:Jn r) (hF:Jmg r R) {k:Nat} (hk:k<r.2.2.2.1.length) (ht:(r.2.2.2.1.getD k J6).2.2.2.1.2≤r.2.1):Uf R.2.1 R.2.2.2.2.1 (R.2.2.2.1.getD k J6)=Uf r.2.1 r.2.2.2.2.1 (r.2.2.2.1.getD k J6):=by
 obtain⟨m,hM,hm⟩:=hF.met
 have o:=hF.old k hk
 have hst:=hF.st
 have hmem:r.2.2.2.1.getD k J6∈r.2.2.2.1:=Je hk
 rw[hM]
 generalize R.2.2.2.1.getD k J6=y at*
 generalize r.2.2.2.1.getD k J6=x at*
 have hH:∀(n:Nat) (h:Int) (a:Jmm),h+n≤r.2.1→Jdd R.2.1 (r.2.2.2.2.1++m) y h n a=Jdd r.2.1 r.2.2.2.2.1 x h n a:=by
  intro n
  induction n with
  |zero=>intro h a _;rfl
  | succ n ih =>
   intro h a hn
   obtain⟨c,s,g,f⟩:=a
   unfold Jdd
   rw[Jho hr.st.1 o (show h<r.2.1 by omega),decide_eq_true (show h<R.2.1 by omega),decide_eq_true (show h<r.2.1 by omega),ih (h+1) _ (by omega)]
   cases q:Jr x h with
   |false=>rfl
   |true=>
    obtain⟨⟨h1,h2,h3,h4⟩,_⟩:=o
    rw[h1,h3,Jpu hm (show h<r.2.1 by omega) (hr.done _ hmem _ q (by omega))]
 have hb:Hc R.2.1 (r.2.2.2.2.1++m) y=Hc r.2.1 r.2.2.2.2.1 x:=by
  have hsp:=(hr.ord _ hmem).span.mid
  unfold Hc Uo
  rw[o.1.2.1]
  exact hH _ _ _ (by omega)
 unfold Uf
 rw[hb,o.1.1,o.1.2.2.2]
theorem Jiw:∀{a b:List Ev} {h:Kb},(Xs h (a++b)).2.2=0→(Xs h a).2.2=0∧Xs h (a++b)=Xs (Xs h a).1 b
 |[],b,h,_=>⟨rfl,rfl⟩
 | e :: a, b, h, h0 => by
  rw[List.cons_append] at h0⊢
  by_cases ha:Kv h e=0
  ·simp only[Jk3,if_pos ha] at h0⊢
   exact Jiw h0
  ·rw[Jk3,if_neg ha] at h0;exact absurd h0 ha
theorem Jo2:∀{a:List Ev} {h:Kb},(Xs h a).2.2=0→(Xs h a).1.1.length=h.1.length+a.length
 |[],h,_=>rfl
 | e :: a, h, h0 => by
  unfold Xs at h0⊢
  by_cases ha:Kv h e=0
  ·rw[if_pos ha] at h0⊢
   rw[Jo2 h0,Xl,List.length_cons];omega
  ·rw[if_neg ha] at h0;exact absurd h0 ha
def Kg5 (r:Reg) (B:List Ev) (h:Kb):Prop:=V9 h∧(∃C',h.2.1=B++C')∧∀k,B.length≤k+1→k<h.2.2.length→Jmg r (h.2.2.getD k U1)
theorem J5k {r:Reg} {B:List Ev} {h:Kb} {e:Ev} (hB:B≠[]) (hS:((B.getD (B.length-1) ev0).2.1.toList==Jd.toList)=true) (hx:Kg5 r B h) (hl:h.1.length<1000) (ha:Kv h e=0):Kg5 r B (Ha h e):=by
 refine⟨Ft hx.1 hl ha, ?_⟩
 obtain⟨hc,hacc⟩:=add_zero ha
 obtain⟨hi,⟨C',hC⟩,hF⟩:=hx
 have n3:=hi.ok.nG
 have hB1:0<B.length:=List.length_pos_iff.2 hB
 obtain⟨E,C,G⟩:=h
 dsimp only at hC n3 hF
 have hlen:C.length=B.length+C'.length:=by rw[hC,List.length_append]
 unfold Ha
 cases hk:e.2.1.toList==Jp.toList with
 | true =>
  obtain⟨n,k,ns,vs,tx⟩:=e
  have hk':k=Jp:=X4 hk
  subst hk'
  have hu:=(Jqf hacc).2.2
  have hne:C'.length≠0:=fun q=>by
   have:C'=[]:=List.eq_nil_of_length_eq_zero q
   subst this
   rw[List.append_nil] at hC
   subst hC
   have hu:((C.getD (C.length-1) ev0).2.1.toList==Jd.toList)=false:=hu
   rw[hu] at hS
   cases hS
  dsimp only[cond_true]
  refine⟨⟨C'.take (C'.length-1), ?_⟩,fun k h1 h2=> ?_⟩
  ·rw[hC,List.length_append,List.take_append,List.take_of_length_le (by omega)]
   congr 2
   omega
  ·rw[List.length_take] at h2
   rw[Jfd (by omega)]
   exact hF k h1 (by omega)
 | false =>
  dsimp only[cond_false]
  refine⟨⟨C'++[e],by rw[hC,List.append_assoc]⟩,fun k h1 h2=> ?_⟩
  rw[List.length_append,List.length_singleton] at h2
  by_cases q:k<G.length
  ·rw[Ll q]
   exact hF k h1 q
  ·have:k=G.length:=by omega
   subst this
   rw[Zo]
   exact J0h hi.ok (hF (G.length-1) (by omega) (by omega)) hc hacc hk
theorem Jvv {r:Reg} {B:List Ev} (hB:B≠[]) (hS:((B.getD (B.length-1) ev0).2.1.toList==Jd.toList)=true):∀{l:List Ev} {h:Kb},Kg5 r B h→h.1.length+l.length≤1000→Kg5 r B (Xs h l).1
 |[],_,hx,_=>hx
 | e :: l, h, hx, hl => by
  unfold Xs
  simp only[List.length_cons] at hl
  by_cases ha:Kv h e=0
  ·rw[if_pos ha]
   exact Jvv hB hS (J5k hB hS hx (by omega) ha) (by rw[Xl];omega)
  ·rw[if_neg ha];exact hx
theorem Jzb {n:Int} (h1:1≤n) (h2:n≤1000):Jc (n,Jp,[],[],Ja)=0:=by
 unfold Jc
 dsimp only
 rw[if_neg (by rw[Va.2 ⟨h1,h2⟩];simp),show Ym Jp=true from by kernel_rfl,cond_true,F6]
 rfl
structure J8w (l:List Ev) (i:Nat):Prop where
 err:(Jb (l.take (i+1))).2.2=0
 st:(Ji (l.take (i+1))).2.1=(l.getD i ev0).2.2.2.1.getD 1 0
 two:(l.getD i ev0).2.2.2.1.length=2
 miss:Kj (Ji (l.take (i+1))).2.2.2.2.1 (Ji (l.take (i+1))).2.1 (Ji (l.take (i+1))).2.2.2.1=[]
 fin:Jmg (Ji (l.take (i+1))) (Ji l)
 undo:Jsf (l.take (i+1)) ((i:Int)+2,Jp,[],[],Ja)=21
theorem J4x {l:List Ev} {i:Nat} (h0:(Jb l).2.2=0) (hl:l.length<1000) (hi:i<l.length) (hk:((l.getD i ev0).2.1.toList==Jd.toList)=true):J8w l i:=by
 have hr:Jb l=Xs V7 l:=by unfold Jb;rw[if_neg (by omega)]
 have lt1:(l.take (i+1)).length=i+1:=by rw[List.length_take];omega
 have hrp:Jb (l.take (i+1))=Xs V7 (l.take (i+1)):=by unfold Jb;rw[if_neg (by omega)]
 have hrq:Jb (l.take i)=Xs V7 (l.take i):=by unfold Jb;rw[if_neg (by rw[List.length_take];omega)]
 have h0':=h0
 rw[hr,←List.take_append_drop (i+1) l] at h0'
 obtain⟨p1,p2⟩:=Jiw h0'
 rw[List.take_append_drop,←hr,←hrp] at p2
 rw[←Us (d:=ev0) hi] at p1
 obtain⟨q1,q2⟩:=Jiw p1
 have hlenp:=Jo2 p1
 rw[Us hi,←hrp] at q2 p1
 rw[Us hi,←hrp,lt1] at hlenp
 have hig:V9 (Xs V7 (l.take i)).1:=hrq▸Jeh
 have hip:V9 (Jb (l.take (i+1))).1:=Jeh
 generalize hg:(Xs V7 (l.take i)).1=g at q2 hig
 generalize he:l.getD i ev0=e at q2 hk
 unfold Xs at q2
 have ha:Kv g e=0:=by
  by_cases a:Kv g e=0
  ·exact a
  ·rw[if_neg a] at q2
   rw[q2] at p1;exact absurd p1 a
 rw[if_pos ha] at q2
 have q2:Jb (l.take (i+1))=(Ha g e,0,0):=q2
 obtain⟨hc,hacc⟩:=add_zero ha
 obtain⟨n,k,ns,vs,tx⟩:=e
 have hk':k=Jd:=X4 hk
 subst hk'
 have hnu:(Jd.toList==Jp.toList)=false:=by kernel_rfl
 have hE:=K0 hc
 have hv:(vs.length:Int)=2:=by have:=hE.nv;simp only[Kt] at this;exact this
 have eK:=V8 (h:=g) (n:=n) (k:=Jd) (ns:=ns) (vs:=vs) (tx:=tx) hnu
 rw[hacc] at eK
 obtain⟨_,z2,z3,z4,z5⟩:=Lc eK.symm
 obtain⟨E,C,G⟩:=g
 have eH:Ha (E,C,G) (n,Jd,ns,vs,tx)=(E++[(n,Jd,ns,vs,tx)],C++[(n,Jd,ns,vs,tx)],G++[Jl (J2 G) (n,Jd,ns,vs,tx)]):=by unfold Ha;dsimp only;rw[hnu,cond_false]
 have hreg:Ji (l.take (i+1))=Jl (J2 G) (n,Jd,ns,vs,tx):=by
  unfold Ji
  rw[q2,if_pos rfl,eH]
  unfold J2
  dsimp only
  rw[List.length_append,List.length_singleton,Nat.add_sub_cancel,Zo]
 have hst:(Jl (J2 G) (n,Jd,ns,vs,tx)).2=(vs.getD 1 0,(J2 G).2.2):=by
  generalize J2 G=R
  obtain⟨tk,st,S,O,M,X,Q⟩:=R
  simp only[Jl,doS,Kt]
  rfl
 have hsett:Zu (J2 G).2.1 (J2 G).2.2.2.1 (J2 G).2.2.2.2.1 (J2 G).2.2.2.2.2.1 (J2 G).2.2.2.2.2.2 vs=0:=by
  simp only[ckS,Kt] at z5;exact z5
 have hmiss:Kj (J2 G).2.2.2.2.1 (vs.getD 1 0) (J2 G).2.2.2.1=[]:=by
  unfold Zu at hsett
  cases c1:(bif decide (vs.getD 1 0≤(J2 G).2.1) then true else decide (vs.getD 0 0<vs.getD 1 0)) with
  |true=>rw[c1] at hsett;cases hsett
  |false=>
   rw[c1,cond_false] at hsett
   have:=of_decide_eq_false (Kc1 (Kc2 hsett (by decide))).1
   exact List.eq_nil_of_length_eq_zero (by omega)
 have hext:Kg5 (Ji (l.take (i+1))) (C++[(n,Jd,ns,vs,tx)]) (Jb (l.take (i+1))).1:=by
  refine⟨hip,⟨[], ?_⟩,fun k h1 h2=> ?_⟩
  ·rw[q2,List.append_nil,eH]
  ·have n3:=hig.ok.nG
   dsimp only at n3
   rw[q2,eH] at h2⊢
   dsimp only at h2⊢
   rw[List.length_append,List.length_singleton] at h1 h2
   have:k=G.length:=by omega
   subst this
   rw[Zo,hreg]
   exact Jmg.rfl' _
 have hlast:(((C++[(n,Jd,ns,vs,tx)]).getD ((C++[(n,Jd,ns,vs,tx)]).length-1) ev0).2.1.toList==Jd.toList)=true:=by
  rw[List.length_append,List.length_singleton,Nat.add_sub_cancel,Zo];kernel_rfl
 have hfin:=Jvv (List.append_ne_nil_of_right_ne_nil _ (by simp)) hlast (l:=l.drop (i+1)) hext (by rw[hlenp,List.length_drop];show 0+(i+1)+_≤_;omega)
 rw[←p2] at hfin
 refine⟨p1, ?_,by rw[he];show vs.length=2;omega, ?_, ?_, ?_⟩
 ·rw[hreg,hst,he]
 ·rw[hreg,hst];exact hmiss
 ·obtain⟨hi2,⟨C',hC⟩,hF⟩:=hfin
  have n3:=hi2.ok.nG
  rw[hC,List.length_append] at n3
  have hb:0<(C++[(n,Jd,ns,vs,tx)]).length:=by rw[List.length_append,List.length_singleton];omega
  have:Ji l=J2 (Jb l).1.2.2:=by unfold Ji;rw[if_pos h0]
  rw[this]
  unfold J2
  exact hF _ (by omega) (by omega)
 ·have hc2:=Jzb (n:=(i:Int)+2) (by omega) (by omega)
  have a0:Js1 (l.take (i+1)) ((i:Int)+2,Jp,[],[],Ja)=0:=by
   unfold Js1
   rw[p1,hc2,decide_eq_false (by omega)]
   rfl
  unfold Jsf
  rw[if_pos a0]
  have hE1:((Jb (l.take (i+1))).1.1.length:Int)=(i:Int)+1:=by
   rw[hlenp];show((0+(i+1):Nat):Int)=_;push_cast;omega
  have hC1:(Jb (l.take (i+1))).1.2.1=C++[(n,Jd,ns,vs,tx)]:=by rw[q2,eH]
  unfold La
  rw[hE1,hC1,hlast,show((i:Int)+2 !=(i:Int)+1+1)=false from by simp;omega]
  dsimp only
  rw[cond_false,show(Jp.toList==Jp.toList)=true from by kernel_rfl,cond_true,cond_true]
  have:((C++[(n,Jd,ns,vs,tx)]).length:Int)≠0:=by rw[List.length_append,List.length_singleton];omega
  rw[beq_false_of_ne this]
  rfl
end Go.Proofs.YtcibbcfiemeoiaaGreatDoor

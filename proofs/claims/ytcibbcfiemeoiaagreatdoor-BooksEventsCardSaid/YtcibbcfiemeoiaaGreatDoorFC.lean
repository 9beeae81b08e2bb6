/- Contracts of the functions that the law reaches: part of the proof. -/
import Derived.Test.YtcibbcfiemeoiaaGreatDoorFB
set_option linter.unusedSimpArgs false
set_option linter.unusedVariables false
set_option maxRecDepth 20000
namespace Go.Proofs.YtcibbcfiemeoiaaGreatDoor
open Go.Sx
set_option maxHeartbeats 20000000
def avL (st:Int):List Spn→Int×Int→Int×Int
 |[],a=>a
 |s::l,(n,last)=>avL st l (n-max 0 (min s.2 st-max s.1 last),max last (min s.2 st))
theorem J47 {st:Int} {a b:Spn} {l:List Spn} {p:Int×Int} (h:a.1=b.1):avL st (a::b::l) p=avL st (b::a::l) p:=by
 obtain⟨n,last⟩:=p
 simp only[avL]
 congr 1
 refine Prod.ext ?_ ?_<;>dsimp only<;>omega
theorem Jpi {st:Int} {x:Spn} {bs:List Spn}:∀{us:List Spn} {p:Int×Int},(∀y∈us,y.1=x.1)→avL st (us++x::bs) p=avL st (x::(us++bs)) p
 |[],_,_=>rfl
 | y :: us, (n, last), h => by
  have h1:=Jpi (st:=st) (x:=x) (bs:=bs) (us:=us) (p:=(n-max 0 (min y.2 st-max y.1 last),max last (min y.2 st))) fun z hz=>h z (List.mem_cons_of_mem _ hz)
  have e:avL st (y::(us++x::bs)) (n,last)=avL st (y::x::(us++bs)) (n,last):=by
   simp only[avL] at h1⊢
   exact h1
  rw[List.cons_append,e,J47 (h y (List.mem_cons_self ..)),List.cons_append]
theorem Jv2 {st:Int}:∀{xs ys:List Spn} {p:Int×Int},ys.Perm xs→(xs.Pairwise fun a b=>a.1≤b.1)→(ys.Pairwise fun a b=>a.1≤b.1)→avL st ys p=avL st xs p
 |[],ys,p,h,_,_=>by rw[List.Perm.eq_nil h]
 | x :: xs, ys, (n, last), h, h1, h2 => by
  have hx:x∈ys:=h.mem_iff.2 (List.mem_cons_self ..)
  obtain⟨us,bs,rfl⟩:=List.append_of_mem hx
  have h1:=List.pairwise_cons.1 h1
  have h2':=List.pairwise_append.1 h2
  have hk:∀y∈us,y.1=x.1:=fun y hy=>by
   have a1:=h2'.2.2 y hy x (List.mem_cons_self ..)
   have:y∈x::xs:=h.mem_iff.1 (List.mem_append_left _ hy)
   rcases List.mem_cons.1 this with rfl|hm
   ·rfl
   ·have:=h1.1 y hm
    omega
  rw[Jpi hk]
  have hp:(us++bs).Perm xs:=((List.perm_middle (a:=x) (l₁:=us) (l₂:=bs)).symm.trans h).cons_inv
  have hs:(us++bs).Pairwise fun a b=>a.1≤b.1:=List.Pairwise.sublist (List.Sublist.append (List.Sublist.refl _) (List.sublist_cons_self ..)) h2
  show avL st (us++bs) _=avL st xs _
  exact Jv2 hp h1.2 hs
def J34 (x:Spn):List Spn→List Spn
 |[]=>[x]
 |y::r=>if x.1≤y.1 then x::y::r else y::J34 x r
def Jyi:List Spn→List Spn
 |[]=>[]
 |x::r=>J34 x (Jyi r)
theorem Jeo (x:Spn):∀l,(J34 x l).Perm (x::l)
 |[]=> .refl _
 |y::r=>by
  simp only[J34]
  split
  ·exact .refl _
  ·exact((Jeo x r).cons y).trans (.swap x y r)
theorem Jgk:∀l,(Jyi l).Perm l
 |[]=> .refl _
 |x::r=>(Jeo x _).trans ((Jgk r).cons x)
theorem Jen {x:Spn}:∀{l:List Spn},(l.Pairwise fun a b=>a.1≤b.1)→(J34 x l).Pairwise fun a b=>a.1≤b.1
 |[],_=>by simp[J34]
 | y :: r, h => by
  have h0:=List.pairwise_cons.1 h
  simp only[J34]
  split
  ·rename_i hlt
   refine List.pairwise_cons.2 ⟨fun z hz=> ?_,h⟩
   rcases List.mem_cons.1 hz with rfl|hz
   ·exact hlt
   ·exact Int.le_trans hlt (h0.1 z hz)
  ·rename_i hlt
   refine List.pairwise_cons.2 ⟨fun z hz=> ?_,Jen h0.2⟩
   rcases List.mem_cons.1 ((Jeo x r).mem_iff.1 hz) with rfl|hz
   ·omega
   ·exact h0.1 z hz
theorem Jb6:∀{l:List Spn},(Jyi l).Pairwise fun a b=>a.1≤b.1
 |[]=> .nil
 |x::r=>Jen Jb6
def Jkm (X:List Out) (s:ByteArray):List Spn:=(X.filter fun x=>x.2.1.toList==s.toList).map fun x=>x.2.2.1
def avN (st:Int) (X:List Out) (s:ByteArray):Int:=(avL st (Jyi (Jkm X s)) (st,0)).1
def avE (l:List Ev) (s:ByteArray):Int:=Je [opE l [s],bif (Jx l).2.1==0 then 6 else 0]
def avP (l:List Ev) (s:ByteArray):Int×Int:=if avE l s=0 then J1u (avN (Jx l).2.1 (Jx l).2.2.2.2.2.1 s) (Jx l).2.1 else(0,0)
def Kq3:Con:={args:=[.val false (.list 67 sEv),aS],ress:=[(true,Hp),I],owns:=[],pre:=fun(l,_)=>[lOk l],spec:=fun(l,s,_)=>(avP l s,avE l s,())}
abbrev Krd (l:List Ev) (s:ByteArray):Ann:={X:=Nat×Int×Int×List Spn,σ:=fun(k,n,last,ys)=>⟨14,[(4, .one (.ptr 2 0)),(6, .one (.ptr 9 0)),(9, .one (.int .i64 n)),(11, .one (.int .i64 last)),(43, .one (.sl 13)),(44, .one (.int .i64 ys.length)),(45, .one (.int .i64 k))],[(2, .box 54 [.int .i64 0, .int .i64 0]),(9, .box 105 [.int .i64 (Jx l).1, .int .i64 (Jx l).2.1, .sl 4, .sl 5, .sl 6, .sl 7, .sl 8]),(4, .imm 127 Xh (Jx l).2.2.1),(5, .imm 130 Yt (Jx l).2.2.2.1),(6, .imm 155 Xw (Jx l).2.2.2.2.1),(7, .imm 188 V5 (Jx l).2.2.2.2.2.1),(8, .imm 235 Ys (Jx l).2.2.2.2.2.2),(13, .own 117 Hp ys)]⟩,inv:=fun(k,n,last,ys)=>k≤ys.length∧J3i (Jkm (Jx l).2.2.2.2.2.1 s) ys∧(0≤last∧last≤(Jx l).2.1)∧((Jx l).2.1-last≤n∧n≤(Jx l).2.1)∧avL (Jx l).2.1 (ys.drop k) (n,last)=avL (Jx l).2.1 ys ((Jx l).2.1,0),mu:=fun(k,_,_,ys)=>ys.length-k}
def K0e (a:Nat×Int×Int×List Spn) (b:List Ev):=min (List.getD a.2.2.2 a.1 (0,0)).2 (Jx b).2.1
def Kzj (a:List Ev) (b:Bt):=Je [opE a [b],bif (Jx a).2.1==0 then 6 else 0]
def Ki0 (a:Bt) (b:List Ev):=List.filter (fun(x:Out)=>List.beq (ByteArray.toList x.2.1) (ByteArray.toList a)) (Jx b).2.2.2.2.2.1
def Kv6 (a:Bt) (b:List Ev):=List.map (fun(x:Out)=>x.2.2.1) (Ki0 a b)
def Kvt (a:Nat×Int×Int×List Spn) (b:List Ev):=K0e a b-max (List.getD a.2.2.2 a.1 (0,0)).1 a.2.2.1
def Kuu (a:Nat×Int×Int×List Spn) (b:List Ev):=a.2.1-max 0 (Kvt a b)
def Kt2 (a:Nat×Int×Int×List (Int×Int)) (b:List Ev) (c:Bt):=a.1≤List.length a.2.2.2∧J3i (Jkm (Jx b).2.2.2.2.2.1 c) a.2.2.2∧(0≤a.2.2.1∧a.2.2.1≤(Jx b).2.1)∧((Jx b).2.1-a.2.2.1≤a.2.1∧a.2.1≤(Jx b).2.1)∧avL (Jx b).2.1 (List.drop a.1 a.2.2.2) (a.2.1,a.2.2.1)=avL (Jx b).2.1 a.2.2.2 ((Jx b).2.1,0)
theorem K5a:Ok Tryz.prog 27 Kq3:=Jty K2d Tryz.f27 (Us (l:=([]:List (Nat×Func))) (by simp)) (fun xx=>X3 (Krd xx.1 xx.2.1)) (fun xx=>fun _=>na ()) fun xx=>by
 obtain⟨(l:List Ev),(s:ByteArray),_⟩:=xx
 refine(by kernel_rfl:(lOk l→(lOk l∧1≤1000000)∧2≤1000000∧Br (Kzj l s !=0) (Sf true ((0,0)=avP l s∧Kzj l s=avE l s)) ((List.length (Jx l).2.2.2.2.2.1≤1000000∧(∀(x:Out),x∈(Jx l).2.2.2.2.2.1→True)∧List.length (Ki0 s l)≤1000000∧∀(x:Out),x∈Ki0 s l→True)∧Kgm (Kv6 s l)∧∀(ys:List (Int×Int)),J3i (Kv6 s l) ys→∃(x:Nat×Int×Int×List (Int×Int)),((Jx l).2.1=x.2.1∧0=x.2.2.1∧Ln ys=Ln x.2.2.2∧0=Nc x.1∧Si 0 (Si 0 ((Jx l).1=(Jx l).1∧(Jx l).2.1=(Jx l).2.1∧(Jx l).2.2.1=(Jx l).2.2.1∧Kf8 l∧Kf4 l∧Kf3 l∧Kf2 l∧ys=x.2.2.2)))∧Kt2 x l s∧∀(x:Nat×Int×Int×List Spn),x.1≤List.length x.2.2.2∧J3i (Jkm (Jx l).2.2.2.2.2.1 s) x.2.2.2∧(0≤x.2.2.1∧x.2.2.1≤(Jx l).2.1)∧((Jx l).2.1-x.2.2.1≤x.2.1∧x.2.1≤(Jx l).2.1)∧avL (Jx l).2.1 (List.drop x.1 x.2.2.2) (x.2.1,x.2.2.1)=avL (Jx l).2.1 x.2.2.2 ((Jx l).2.1,0)→Br (decide (Nc x.1<Ln x.2.2.2)) (Tw (Bd (Nc x.1) (Ln x.2.2.2))∧(Iw (Kvt x l)∧Iw (Kuu x l))∧Iw (Nc x.1+1)∧∃(y:Nat×Int×Int×List (Int×Int)),(Kuu x l=y.2.1∧max x.2.2.1 (K0e x l)=y.2.2.1∧Ln x.2.2.2=Ln y.2.2.2∧Nc x.1+1=Nc y.1∧Si 0 (Si 0 (Si (Jx l).1 (Si (Jx l).2.1 ((Jx l).2.2.1=(Jx l).2.2.1∧Kf8 l∧Kf4 l∧Kf3 l∧Kf2 l∧x.2.2.2=y.2.2.2)))))∧Kt2 y l s∧List.length y.2.2.2-y.1<List.length x.2.2.2-x.1) (((0≤x.2.1∧x.2.1≤1000000000000)∧1≤(Jx l).2.1∧(Jx l).2.1≤1000000000000)∧Sf true (E2 (J1u x.2.1 (Jx l).2.1)=avP l s∧0=avE l s))))=_).mp ?_
 delta Kf8 Kf4 Kf3 Kf2 K0e Kzj Ki0 Kv6 Kvt Kuu Kt2 Br Iw Bd Tw Sf Si Ln Nc E2
 intro hl
 have hr:=Jbe (l:=l)
 have hz:Jkm (Jx l).2.2.2.2.2.1 s=List.map (fun x=>x.2.2.1) (List.filter (fun x=>x.2.1.toList.beq s.toList) (Jx l).2.2.2.2.2.1):=rfl
 rw[←hz]
 have nX:(Jx l).2.2.2.2.2.1.length≤16:=hr.nX
 have hX:∀x∈Jkm (Jx l).2.2.2.2.2.1 s,Jls x:=fun x hx=>by
  obtain⟨y,hy,rfl⟩:=List.mem_map.1 hx
  exact(hr.out y (List.mem_filter.1 hy).1).span
 have hlen:(Jkm (Jx l).2.2.2.2.2.1 s).length≤16:=by
  unfold Jkm
  rw[List.length_map]
  exact Nat.le_trans (List.length_filter_le _ _) nX
 have hst:=hr.st
 have htk:=hr.tk
 refine⟨⟨hl,by decide⟩,by decide,fun h=> ?_,fun h=>⟨⟨Nat.le_trans nX (by decide),fun _ _=>trivial,Nat.le_trans (List.length_filter_le _ _) (Nat.le_trans nX (by decide)),fun _ _=>trivial⟩,⟨fun x hx=> ?_,by omega⟩,fun ys hy=>⟨((0:Nat),(Jx l).2.1,0,ys),by(repeat' first|exact rfl|exact⟨⟩|apply And.intro|omega|dsimp only;omega),⟨Nat.zero_le _,hy,by(first|omega|dsimp only;omega),by(first|omega|dsimp only;omega),rfl⟩,fun(x:Nat×Int×Int×List Spn) hk=>⟨fun h1=> ?_,fun h1=> ?_⟩⟩⟩⟩
 ·have h:avE l s≠0:=bne_iff_ne.1 h
  refine⟨rfl, ?_,rfl⟩
  unfold avP;rw[if_neg h]
 ·have:=hX x hx
  have h1:=this.lo
  have h2:=this.mid
  have h3:=this.hi
  omega
 ·obtain⟨k,n,last,ys⟩:=x
  obtain⟨k1,k2,k3,k4,k5⟩:=hk
  have hlt:k<ys.length:=by simpa using h1
  have hx:=hX _ (k2.1.mem_iff.1 (Jd (d:=((0:Int),(0:Int))) hlt))
  have x1:=hx.lo
  have x2:=hx.mid
  have x3:=hx.hi
  dsimp only at k1 k2 k3 k4 k5
  rw[Jp (d:=((0:Int),(0:Int))) hlt,avL] at k5
  have hln:ys.length≤16:=by rw[k2.1.length_eq];exact hlen
  dsimp only
  generalize ys.getD k (0,0)=y at x1 x2 x3 k5⊢
  obtain⟨a,b⟩:=y
  dsimp only at x1 x2 x3 k5⊢
  refine⟨by omega,by omega,by omega,(k+1,n-max 0 (min b (Jx l).2.1-max a last),max last (min b (Jx l).2.1),ys),by(repeat' first|exact rfl|exact⟨⟩|apply And.intro|omega|dsimp only;omega),⟨by(first|omega|dsimp only;omega),k2,by(first|omega|dsimp only;omega),by(first|omega|dsimp only;omega),k5⟩,by(first|omega|dsimp only;omega)⟩
 ·obtain⟨k,n,last,ys⟩:=x
  obtain⟨k1,k2,k3,k4,k5⟩:=hk
  have hlt:¬k<ys.length:=by simpa using h1
  dsimp only at k1 k2 k3 k4 k5
  have e:k=ys.length:=by omega
  rw[e,List.drop_length,avL] at k5
  have h:avE l s=0:=bne_eq_false_iff_eq.1 h
  have hs:(Jx l).2.1≠0:=fun h0=>by
   have:=(Zn h).2
   rw[h0] at this
   exact absurd this (by decide)
  have e2:avN (Jx l).2.1 (Jx l).2.2.2.2.2.1 s=n:=by
   unfold avN
   rw[Jv2 (k2.1.trans (Jgk _).symm) Jb6 k2.2] at k5
   rw[←k5]
  refine⟨⟨by(first|omega|dsimp only;omega),by omega⟩,rfl, ?_,h.symm⟩
  unfold avP
  rw[if_pos h,e2]
abbrev K2c:=K2d.add K5a
def Jzq:Con:={args:=[aI],ress:=[tS],owns:=[],pre:=fun(n,_)=>[-(10^17:Int)<n,n<10^18],spec:=fun(n,_)=>(X4 n,())}
def Kkp:=10^18
def K0a (a:Int):=a<Kkp
def Kji:= -10^17
def Kyx (a:Int):=Kji<a
theorem Kpt:Ok Tryz.prog 117 Jzq:=okW K2c Tryz.f117 na fun xx=>by
 obtain⟨(n:Int),_⟩:=xx
 refine(by kernel_rfl:(Kyx n→K0a n→(17≤18∧Kyx n∧K0a n)∧X4 n=X4 n)=_).mp ?_
 delta Kkp K0a Kji Kyx
 intro h1 h2
 exact⟨⟨by decide,h1,h2⟩,rfl⟩
abbrev K2b:=K2c.add Kpt
def Jtw (s:ByteArray) (j:Nat):ByteArray:=bs (List.replicate j 48++Lib.itoa (Jfu s))
abbrev Jz7 (s:ByteArray):Nat→Option Ann:=fun id=>if id=0 then some {X:=Nat×Int,σ:=fun(k,x)=>⟨0,[(0, .one (.str s)),(3, .one (.int .i64 x)),(4, .one (.int .i64 k))],[]⟩,inv:=fun(k,x)=>k≤s.size∧(0≤x∧x<9999721)∧Jr1 (s.data.toList.drop k) x=Jfu s,mu:=fun(k,_)=>s.size-k}
 else if id=2 then some {X:=Nat,σ:=fun j=>⟨0,[(5, .one (.str (Jtw s j)))],[]⟩,inv:=fun j=>j+(Lib.itoa (Jfu s)).length≤7,mu:=fun j=>7-j} else none
def Klj (a:Nat) (b:Bt):=a+List.length (Lib.itoa (Jfu b))≤7
theorem K4r:Ok Tryz.prog 67 K1p:=okW K2b Tryz.f67 (fun xx=>Jz7 xx.1) fun xx=>by
 obtain⟨(s:ByteArray),_⟩:=xx
 refine(by kernel_rfl:(ByteArray.size s≤1000000→∃(x:Nat×Int),Sf s (1=x.2∧0=Nc x.1)∧J53 x s∧∀(x:Nat×Int),J53 x s→Br (decide (Nc x.1<Nc (ByteArray.size s))) (Kg7 x s∧Z32 x∧∃(y:Nat×Int),Sf s (Kjg x s y∧Jrs x y)∧Kh3 y s x) ((Kji<x.2∧x.2<Kkp)∧∃(x_1:Nat),X4 x.2=Jtw s x_1∧Klj x_1 s∧∀(x:Nat),Klj x s→Br (decide (Nc (ByteArray.size (Jtw s x))<7)) (Nc (1+ByteArray.size (Jtw s x))≤9223372036854775807∧∃(y:Nat),ByteArray.mk (Array.mk (48::([]++(Jtw s x).data.toList)))=Jtw s y∧Klj y s∧7-y<7-x) (Jtw s x=Jn6 s)))=_).mp ?_
 delta Z13 Z32 Jrs Klj Kkq Kkp Kji Kjg J53 Kh3 Kg7 Br Iw Bd Sf Nc
 intro hs
 refine⟨((0:Nat),(1:Int)),by(repeat' first|exact rfl|exact⟨⟩|apply And.intro|omega|dsimp only;omega),⟨Nat.zero_le _,by(first|omega|dsimp only;omega),rfl⟩,fun(y:Nat×Int) hk=>⟨fun h=> ?_,fun h=> ?_⟩⟩
 ·obtain⟨k,x⟩:=y
  have hlt:k<s.size:=by simpa using h
  obtain⟨k1,k2,k3⟩:=hk
  dsimp only at k1 k2
  rw[Dg hlt,Jr1] at k3
  have hb:=Jvr s k
  refine⟨by(repeat' first|apply And.intro|(first|omega|dsimp only;omega)),by(repeat' first|apply And.intro|(first|omega|dsimp only;omega)),(k+1,(341*x+((s.data.toList.getD k 0).toNat:Int)).tmod 9999721),by(repeat' first|exact rfl|exact⟨⟩|apply And.intro|omega|dsimp only;omega),⟨by(first|omega|dsimp only;omega),⟨Int.tmod_nonneg _ (by omega),Int.tmod_lt_of_pos _ (by decide)⟩,k3⟩,by(first|omega|dsimp only;omega)⟩
 ·obtain⟨k,x⟩:=y
  have hlt:¬k<s.size:=by simpa using h
  obtain⟨k1,k2,k3⟩:=hk
  have e:k=s.size:=by omega
  rw[e,List.drop_eq_nil_of_le (by simp),Jr1] at k3
  have k3:x=Jfu s:=k3
  have hl:=Jh0 s
  dsimp only
  rw[k3]
  have hb:=Jmh s
  have hsz:∀j,(Jtw s j).size=j+(Lib.itoa (Jfu s)).length:=fun j=>by
   unfold Jtw
   rw[Xf,List.length_append,List.length_replicate]
  refine⟨⟨by omega,by omega⟩,(0:Nat),rfl,by omega,fun(j:Nat) hj=>⟨fun h=> ?_,fun h=> ?_⟩⟩
  ·have h:((Jtw s j).size:Int)<7:=of_decide_eq_true h
   have hz:=hsz j
   refine⟨by omega,j+1,rfl,by omega,by omega⟩
  ·have h:¬((Jtw s j).size:Int)<7:=of_decide_eq_false h
   have hz:=hsz j
   have:j=7-(Lib.itoa (Jfu s)).length:=by omega
   rw[this];rfl
abbrev K2a:=K2b.add K4r
theorem Jk1:∀{l:List (List UInt8)} {b:Nat},(∀x∈l,x.length≤b)→(Lib.join l []).length≤b*l.length
 |[],_,_=>by simp[Lib.join,List.intercalate]
 |[x],b,h=>by
  have:=h x (List.mem_cons_self ..)
  simpa[Lib.join,List.intercalate,List.intersperse] using this
 |x::y::r,b,h=>by
  have ih:=Jk1 (l:=y::r) fun z hz=>h z (List.mem_cons_of_mem _ hz)
  have hx:=h x (List.mem_cons_self ..)
  have e:Lib.join (x::y::r) []=x++Lib.join (y::r) []:=by simp[Lib.join,List.intercalate,List.intersperse]
  rw[e,List.length_append,List.length_cons,Nat.mul_add]
  omega
def J4u:Con:={args:=[.ref 212 Jib],ress:=[(false, .list 67 sEv)],owns:=[],pre:=fun(h,_)=>[h.1.length≤1000,∀e∈h.1,Jao e],spec:=fun(h,_)=>(h.1,())}
theorem K44:Ok Tryz.prog 41 J4u:=okW K2a Tryz.f41 na fun xx=>by
 obtain⟨⟨(E:List Ev),(C:List Ev),(G:List Reg)⟩,_⟩:=xx
 refine(by kernel_rfl:(List.length E≤1000→(∀(e:Ev),J0r E e→Jao e)→Br false ([]=E) ((Z34 E∧∀(x:Ev),J0r E x→Kky x)∧List.map (fun(x:Ev)=>x) E=E))=_).mp ?_
 delta Z34 J0r Kky Br
 intro h1 h2
 refine⟨fun h=>(nomatch h),fun _=>⟨⟨by omega,fun x hx=>⟨(h2 x hx).1,(h2 x hx).2.1⟩⟩,List.map_id' _⟩⟩
abbrev K19:=K2a.add K44
def Kp7 (l:List Ev):ByteArray:=Vo (l.map J3k) Jb
def K5x:Con:={args:=[.ref 212 Jib],ress:=[tS],owns:=[],pre:=fun(h,_)=>[h.1.length≤1000,∀e∈h.1,Lt e],spec:=fun(h,_)=>(Kp7 h.1,())}
def Klo (a:List Ev):=List.map (fun(x:Ev)=>J3k x) a
def K0x (a:List Ev):=∀(x:Ev),J0r a x→Lt x
theorem K43:Ok Tryz.prog 42 K5x:=okW K19 Tryz.f42 na fun xx=>by
 obtain⟨⟨(E:List Ev),(C:List Ev),(G:List Reg)⟩,_⟩:=xx
 refine(by kernel_rfl:(List.length E≤1000→K0x E→Br false (B0=Kp7 E) ((Z34 E∧K0x E∧List.length (Klo E)≤1000000∧List.length (Lib.join (List.map (fun(x:ByteArray)=>Z13 x) (Klo E)) [])≤140737488355328)∧Vo (Klo E) B0=Kp7 E))=_).mp ?_
 delta Z13 Z34 Klo J0r K0x Br B0
 intro h1 h2
 refine⟨fun h=>(nomatch h),fun _=>⟨⟨by omega,h2,by rw[List.length_map];omega, ?_⟩,rfl⟩⟩
 refine Nat.le_trans (Jk1 (b:=2000000) fun z hz=> ?_) ?_
 ·rw[List.map_map] at hz
  obtain⟨e,he,rfl⟩:=List.mem_map.1 hz
  have:=Jts (h2 e he)
  have:=Jpg (h2 e he)
  show(J3k e).size≤2000000
  omega
 ·rw[List.length_map,List.length_map];omega
abbrev K6v:=K19.add K43
def Jqr:List Say:=[(⟨⟨[115,116,97,116,105,111,110,32,97,32,48,32,49,48]⟩⟩,⟨⟨[100,111,110,101,32,49]⟩⟩,0),(⟨⟨[115,116,97,116,105,111,110,32,98,32,48,32,56]⟩⟩,⟨⟨[100,111,110,101,32,50]⟩⟩,0),(⟨⟨[112,114,105,99,101,32,97,32,48,32,53]⟩⟩,⟨⟨[100,111,110,101,32,51]⟩⟩,0),(⟨⟨[111,114,100,101,114,32,111,49,32,97,32,98,32,49,32,50,32,53,32,54]⟩⟩,⟨⟨[100,111,110,101,32,52]⟩⟩,0),(⟨⟨[111,114,100,101,114,32,111,50,32,98,32,97,32,49,32,50,32,53,32,51]⟩⟩,⟨⟨[]⟩⟩,4),(⟨⟨[111,117,116,97,103,101,32,121,32,98,32,49,32,51,32,52,32,53]⟩⟩,⟨⟨[]⟩⟩,24),(⟨⟨[111,117,116,97,103,101,32,120,32,98,32,49,32,53,32,55,32,48]⟩⟩,⟨⟨[100,111,110,101,32,53]⟩⟩,0),(⟨⟨[112,101,114,109,105,116,32,112,32,120,32,53]⟩⟩,⟨⟨[100,111,110,101,32,54]⟩⟩,0),(⟨⟨[109,105,115,115,105,110,103]⟩⟩,⟨⟨[111,49,32,50,32,111,49,32,51,32,111,49,32,52]⟩⟩,0),(⟨⟨[111,117,116,97,103,101,115]⟩⟩,⟨⟨[120]⟩⟩,0),(⟨⟨[116,114,105,112,32,111,49,32,53]⟩⟩,⟨⟨[]⟩⟩,23),(⟨⟨[109,101,116,101,114,32,111,49,32,53,32,50,32,54,32,54]⟩⟩,⟨⟨[100,111,110,101,32,55]⟩⟩,0),(⟨⟨[109,101,116,101,114,32,111,49,32,53,32,51,32,54,32,53]⟩⟩,⟨⟨[100,111,110,101,32,56]⟩⟩,0),(⟨⟨[115,101,116,116,108,101,32,53,32,53]⟩⟩,⟨⟨[]⟩⟩,32),(⟨⟨[109,101,116,101,114,32,111,49,32,53,32,52,32,52,32,51]⟩⟩,⟨⟨[100,111,110,101,32,57]⟩⟩,0),(⟨⟨[109,105,115,115,105,110,103]⟩⟩,⟨⟨[110,111,110,101]⟩⟩,0),(⟨⟨[115,101,116,116,108,101,32,53,32,54]⟩⟩,⟨⟨[]⟩⟩,14),(⟨⟨[115,101,116,116,108,101,32,53,32,53]⟩⟩,⟨⟨[100,111,110,101,32,49,48]⟩⟩,0),(⟨⟨[117,110,100,111]⟩⟩,⟨⟨[]⟩⟩,21),(⟨⟨[98,105,108,108,32,111,49]⟩⟩,⟨⟨[51,32,49,54,32,49,52,32,55,48,32,49,50]⟩⟩,0),(⟨⟨[98,97,108,97,110,99,101,32,98]⟩⟩,⟨⟨[45,53,56]⟩⟩,0),(⟨⟨[114,97,116,101,32,97]⟩⟩,⟨⟨[53]⟩⟩,0),(⟨⟨[114,101,115,116,111,114,101,32,120,32,54]⟩⟩,⟨⟨[]⟩⟩,32),(⟨⟨[112,101,114,109,105,116,115]⟩⟩,⟨⟨[112]⟩⟩,0),(⟨⟨[114,101,116,117,114,110,32,112,32,54]⟩⟩,⟨⟨[100,111,110,101,32,49,49]⟩⟩,0),(⟨⟨[114,101,115,116,111,114,101,32,120,32,54]⟩⟩,⟨⟨[100,111,110,101,32,49,50]⟩⟩,0),(⟨⟨[115,101,116,116,108,101,32,56,32,56]⟩⟩,⟨⟨[100,111,110,101,32,49,51]⟩⟩,0),(⟨⟨[115,101,116,116,108,101,100]⟩⟩,⟨⟨[56]⟩⟩,0)]
def Fc:List Ev:=[(1,⟨⟨[115,116,97,116,105,111,110]⟩⟩,[⟨⟨[97]⟩⟩],[0,10],⟨⟨[]⟩⟩),(2,⟨⟨[115,116,97,116,105,111,110]⟩⟩,[⟨⟨[98]⟩⟩],[0,8],⟨⟨[]⟩⟩),(3,⟨⟨[112,114,105,99,101]⟩⟩,[⟨⟨[97]⟩⟩],[0,5],⟨⟨[]⟩⟩),(4,⟨⟨[111,114,100,101,114]⟩⟩,[⟨⟨[111,49]⟩⟩,⟨⟨[97]⟩⟩,⟨⟨[98]⟩⟩],[1,2,5,6],⟨⟨[]⟩⟩),(5,⟨⟨[111,117,116,97,103,101]⟩⟩,[⟨⟨[120]⟩⟩,⟨⟨[98]⟩⟩],[1,5,7,0],⟨⟨[]⟩⟩),(6,⟨⟨[112,101,114,109,105,116]⟩⟩,[⟨⟨[112]⟩⟩,⟨⟨[120]⟩⟩],[5],⟨⟨[]⟩⟩),(7,⟨⟨[109,101,116,101,114]⟩⟩,[⟨⟨[111,49]⟩⟩],[5,2,6,6],⟨⟨[]⟩⟩),(8,⟨⟨[109,101,116,101,114]⟩⟩,[⟨⟨[111,49]⟩⟩],[5,3,6,5],⟨⟨[]⟩⟩),(9,⟨⟨[109,101,116,101,114]⟩⟩,[⟨⟨[111,49]⟩⟩],[5,4,4,3],⟨⟨[]⟩⟩),(10,⟨⟨[115,101,116,116,108,101]⟩⟩,[],[5,5],⟨⟨[]⟩⟩),(11,⟨⟨[114,101,116,117,114,110]⟩⟩,[⟨⟨[112]⟩⟩],[6],⟨⟨[]⟩⟩),(12,⟨⟨[114,101,115,116,111,114,101]⟩⟩,[⟨⟨[120]⟩⟩],[6],⟨⟨[]⟩⟩),(13,⟨⟨[115,101,116,116,108,101]⟩⟩,[],[8,8],⟨⟨[]⟩⟩)]
def K1m:List Ev:=(Jdb Vt Jqr).1.2.1
def K1l:List Reg:=(Jdb Vt Jqr).1.2.2
theorem Jv8:Jdb Vt Jqr=((Fc,K1m,K1l),true):=by kernel_rfl
def K55:Xu:={T? :=some 212,s:=Jib,args:=[.val false (.list 147 Kmm)],ress:=[Bo],pre:=fun h (l,_)=>[h=Vt,l=Jqr],spec:=fun _ _=>(true,()),post:=fun _ _=>(Fc,K1m,K1l)}
theorem Jtb:Jqr.length≤1000000∧∀x∈Jqr,x.1.size≤1000000:=by
 refine⟨by decide,fun x hx=> ?_⟩
 have:(Jqr.all fun x=>decide (x.1.size≤1000000))=true:=by kernel_rfl
 exact of_decide_eq_true (List.all_eq_true.1 this x hx)
theorem Jyx {f:FuncId} {c:Xu} {p:c.s.T→ATup c.args→List Prop} {sp:c.s.T→ATup c.args→Tup c.ress} {q:c.s.T→ATup c.args→c.s.T} (h1:OkO Tryz.prog f c) (h:∀x y,Uj (p x y)→Uj (c.pre x y)∧sp x y=c.spec x y∧q x y=c.post x y):OkO Tryz.prog f {c with pre:=p,spec:=sp,post:=q}:=
 ⟨h1.1,fun x y M R B w b T cells vals vs hB hMR hg hw hBb hMb hRb hT ho hv hpre ha=>by
  obtain⟨hp,e1,e2⟩:=h x y hpre
  have H:=h1.2 x y M R B w b T cells vals vs hB hMR hg hw hBb hMb hRb hT ho hv hp ha
  dsimp only
  rw[e1,e2]
  exact H⟩
theorem Kmq:OkO Tryz.prog 66 J8m:=Uc mixed Kls.ok (by kernel_rfl) (by kernel_rfl) (Us (l:=([]:List (Nat×Func))) (by simp)) (fun xx yy=>X3 (Jwe (xx.1,xx.2.1,xx.2.2) yy.1)) (fun xx yy=>fun _=>na ()) fun T xx yy hT=>by obtain rfl:=hT _ rfl;exact K1e xx.1 xx.2.1 xx.2.2 yy.1
theorem Kmt:Ok Tryz.prog 66 (Xu.con K55):=X0 (Jyx (c:=J8m) Kmq fun x y hp=>by
 obtain⟨rfl,e⟩:=hp
 obtain⟨l,_⟩:=y
 have e:l=Jqr:=e
 subst e
 exact⟨⟨Vh,J36,Jtb.1,Jtb.2⟩,by rw[show J8m.spec Vt (Jqr,())=((Jdb Vt Jqr).2,()) from rfl,Jv8],by rw[show J8m.post Vt (Jqr,())=(Jdb Vt Jqr).1 from rfl,Jv8]⟩)
abbrev K08:=K6v.add Kmt
theorem Jo9:Fc.length=13:=by kernel_rfl
theorem Jnb:∀e∈Fc,Jao e:=fun e he=>by
 have:(Fc.all fun e=>decide (e.2.2.1.length≤1000000)&&decide (e.2.2.2.1.length≤1000000)&&e.2.2.1.all fun s=>decide (s.size≤1000000))=true:=by kernel_rfl
 have h:=List.all_eq_true.1 this e he
 simp only[Bool.and_eq_true] at h
 exact⟨of_decide_eq_true h.1.1,of_decide_eq_true h.1.2,fun s hs=>of_decide_eq_true (List.all_eq_true.1 h.2 s hs)⟩
theorem J4a:∀e∈Fc,Jc e=0:=fun e he=>by
 have:(Fc.all fun e=>Jc e==0)=true:=by kernel_rfl
 exact eq_of_beq (List.all_eq_true.1 this e he)
theorem Jnc (n:Nat):lOk (Fc.take n):=⟨by have:=Jo9;rw[List.length_take];omega,fun e he=>Jnb e (List.mem_of_mem_take he)⟩
def J17:Con:={args:=[],ress:=[Bo],owns:=[],pre:=fun _=>[],spec:=fun _=>(true,())}
def Z83:=[(32:UInt8),(54:UInt8)]
def Z94:=[(32:UInt8),(51:UInt8)]
def J2z:=[(32:UInt8),(53:UInt8)]
def Klr:=[(32:UInt8),(56:UInt8)]
def Kf6:=ByteArray.mk (Array.mk [98])
def Kln:=ByteArray.mk (Array.mk [97])
def K07:=32::53::Z83
def Kw8:=ByteArray.mk (Array.mk (115::101::116::116::108::101::32::53::J2z))
def Kwv:=ByteArray.mk (Array.mk (114::101::115::116::111::114::101::32::120::Z83))
def Kwd:=Jfy (List.take 6 Fc) Kln 3+Jfy (List.take 6 Fc) Kf6 5
def Kuc:=Kwd+Jlp Fc Kln Kf6
def Kt8:=Kuc+Jf1 Fc 4
def Kt3:=Kt8+(Jbi Fc).2
def Kte:=Kt3+avE (List.take 10 Fc) Kf6
def Ksz:=Kte+avE Fc Kf6
theorem K3z:wpFG Tryz.prog K08.g (na ()) (fun _=>na ()) (Sx.look ([(65,Tryz.f65)]:List (Nat×Func))) Tryz.f14 J17 ():=by
 refine(by kernel_rfl:((([],[],[])=Vt∧[(ByteArray.mk (Array.mk [115,116,97,116,105,111,110,32,97,32,48,32,49,48]),ByteArray.mk (Array.mk [100,111,110,101,32,49]),0),(ByteArray.mk (Array.mk (115::116::97::116::105::111::110::32::98::32::48::Klr)),ByteArray.mk (Array.mk [100,111,110,101,32,50]),0),(ByteArray.mk (Array.mk (112::114::105::99::101::32::97::32::48::J2z)),ByteArray.mk (Array.mk (100::111::110::101::Z94)),0),(ByteArray.mk (Array.mk (111::114::100::101::114::32::111::49::32::97::32::98::32::49::32::50::K07)),ByteArray.mk (Array.mk [100,111,110,101,32,52]),0),(ByteArray.mk (Array.mk (111::114::100::101::114::32::111::50::32::98::32::97::32::49::32::50::32::53::Z94)),B0,4),(ByteArray.mk (Array.mk (111::117::116::97::103::101::32::121::32::98::32::49::32::51::32::52::J2z)),B0,24),(ByteArray.mk (Array.mk [111,117,116,97,103,101,32,120,32,98,32,49,32,53,32,55,32,48]),ByteArray.mk (Array.mk (100::111::110::101::J2z)),0),(ByteArray.mk (Array.mk (112::101::114::109::105::116::32::112::32::120::J2z)),ByteArray.mk (Array.mk (100::111::110::101::Z83)),0),(Ub,ByteArray.mk (Array.mk [111,49,32,50,32,111,49,32,51,32,111,49,32,52]),0),(Uf,ByteArray.mk (Array.mk [120]),0),(ByteArray.mk (Array.mk (116::114::105::112::32::111::49::J2z)),B0,23),(ByteArray.mk (Array.mk (109::101::116::101::114::32::111::49::32::53::32::50::32::54::Z83)),ByteArray.mk (Array.mk [100,111,110,101,32,55]),0),(ByteArray.mk (Array.mk (109::101::116::101::114::32::111::49::32::53::32::51::32::54::J2z)),ByteArray.mk (Array.mk (100::111::110::101::Klr)),0),(Kw8,B0,32),(ByteArray.mk (Array.mk (109::101::116::101::114::32::111::49::32::53::32::52::32::52::Z94)),ByteArray.mk (Array.mk [100,111,110,101,32,57]),0),(Ub,Jl0,0),(ByteArray.mk (Array.mk (115::101::116::116::108::101::K07)),B0,14),(Kw8,ByteArray.mk (Array.mk [100,111,110,101,32,49,48]),0),(Js,B0,21),(ByteArray.mk (Array.mk [98,105,108,108,32,111,49]),ByteArray.mk (Array.mk [51,32,49,54,32,49,52,32,55,48,32,49,50]),0),(ByteArray.mk (Array.mk [98,97,108,97,110,99,101,32,98]),ByteArray.mk (Array.mk [45,53,56]),0),(ByteArray.mk (Array.mk [114,97,116,101,32,97]),ByteArray.mk (Array.mk [53]),0),(Kwv,B0,32),(Ue,ByteArray.mk (Array.mk [112]),0),(ByteArray.mk (Array.mk (114::101::116::117::114::110::32::112::Z83)),ByteArray.mk (Array.mk [100,111,110,101,32,49,49]),0),(Kwv,ByteArray.mk (Array.mk [100,111,110,101,32,49,50]),0),(ByteArray.mk (Array.mk (115::101::116::116::108::101::32::56::Klr)),ByteArray.mk (Array.mk [100,111,110,101,32,49,51]),0),(Ud,ByteArray.mk (Array.mk [56]),0)]=Jqr)∧Br false (Sf true (false=true)) ((13≤1000∧∀(e:Ev),e∈Fc→Jao e)∧Br false (Sf true (false=true)) (T2 (((0:Int)≤0∧(0:Int)≤6∧(6:Int)≤13)∧lOk (List.take 6 Fc)) (lOk Fc∧T2 (lOk Fc) ((((0:Int)≤0∧(0:Int)≤10∧(10:Int)≤13)∧lOk (List.take 10 Fc))∧T2 (lOk Fc) ((13≤1000∧∀(e:Ev),e∈Fc→Lt e)∧(325:Int)≤9223372036854775807∧(Iw Kwd∧Iw Kuc∧Iw Kt8∧Iw Kt3∧Iw Kte∧Iw Ksz∧Iw (Ksz+Ze Fc Kln)∧(true=true→2≤1000000))∧Tw (true=true)))))))=_).mp ?_
 delta Z83 Z94 J2z Klr Kf6 Kln K07 Jl0 Kw8 Kwv Kwd Kuc Kt8 Kt3 Kte Ksz Br Iw T2 Tw Sf B0 Ub Uf Ue Ud Js
 have ok:lOk Fc:=⟨by rw[Jo9];decide,Jnb⟩
 have z1:Jfy (List.take 6 Fc) {data:={toList:=[97]}} 3=0:=by kernel_rfl
 have z2:Jfy (List.take 6 Fc) {data:={toList:=[98]}} 5=0:=by kernel_rfl
 have z3:Jlp Fc {data:={toList:=[97]}} {data:={toList:=[98]}}=0:=by kernel_rfl
 have z4:Jf1 Fc 4=0:=by kernel_rfl
 have z5:(Jbi Fc).2=0:=by kernel_rfl
 have z6:avE (List.take 10 Fc) {data:={toList:=[98]}}=0:=by kernel_rfl
 have z7:avE Fc {data:={toList:=[98]}}=0:=by kernel_rfl
 have z8:Ze Fc {data:={toList:=[97]}}=0:=by kernel_rfl
 rw[z1,z2,z3,z4,z5,z6,z7,z8]
 exact⟨⟨rfl,rfl⟩,fun h=>(nomatch h),fun _=>⟨⟨by decide,Jnb⟩,fun h=>(nomatch h),fun _=>⟨⟨by omega,Jnc 6⟩,⟨by omega,Jnc 6⟩,ok,ok,ok,⟨by omega,Jnc 10⟩,ok,ok,⟨by decide,fun e he=>J44 (J4a e he)⟩,by decide,⟨by decide,by decide,by decide,by decide,by decide,by decide,by decide,fun _=>by decide⟩,rfl,rfl⟩⟩⟩
theorem K5h:Ok Tryz.prog 14 J17:=Jea mixed K08.ok (by kernel_rfl) (by kernel_rfl) (Us (l:=([(65,Tryz.f65)]:List (Nat×Func))) (List.forall_mem_cons.2 ⟨by kernel_rfl,by simp⟩)) (fun xx=>na ()) (fun xx=>fun _=>na ()) fun xx=>K3z
abbrev K6u:=K08.add K5h
abbrev K6t:=K6u
abbrev K6s:=K6t
abbrev K18:=K6s
def Jgz (e:Ev):Bool:=bif bif bif decide (40<(e.2.1.size:Int)) then true else decide (6<(e.2.2.1.length:Int)) then true else decide (8<(e.2.2.2.1.length:Int)) then true else decide (200<(e.2.2.2.2.size:Int))
def Xk (e:Ev):Bool:=bif Jgz e then false else e.2.2.1.all fun s=> !decide (40<(s.size:Int))
def Xj (l:List Ev) (n:Int):Bool:=bif decide (n<(l.length:Int)) then false else l.all Xk
def Kbj:Con:={args:=[.val false (.list 67 sEv),aI],ress:=[Bo],owns:=[],pre:=fun(_,n,_)=>[n≤1000000],spec:=fun(l,n,_)=>(Xj l n,())}
abbrev Jz8 (l:List Ev) (n:Int):Nat→Option Ann:=fun id=>if id=0 then some {X:=Nat,σ:=fun k=>⟨1,[(0, .one (.sl 0)),(5, .one (.int .i64 k))],[(0, .imm 67 sEv l)]⟩,inv:=fun k=>k≤l.length∧(l.drop k).all Xk=l.all Xk,mu:=fun k=>l.length-k}
 else if id=2 then some {X:=Nat×Nat,σ:=fun(k,j)=>⟨1,[(0, .one (.sl 0)),(5, .one (.int .i64 k)),(6, .one (.int .i64 j))],[(0, .imm 67 sEv l)]⟩,inv:=fun(k,j)=>k<l.length∧j≤(l.getD k ev0).2.2.1.length∧(l.getD k ev0).2.2.1.length≤6∧(bif (((l.getD k ev0).2.2.1.drop j).all fun s=> !decide (40<(s.size:Int))) then(l.drop (k+1)).all Xk else false)=l.all Xk,mu:=fun(k,j)=>(l.getD k ev0).2.2.1.length-j,rel:=some fun x0 x=>x0.1=x.1} else none
def Kf1 (a:List Ev) (b:Nat×Nat):=List.length (List.getD a b.1 ev0).2.2.1
def Kku (a:Nat) (b:List Ev):=a≤List.length b∧List.all (List.drop a b) Xk=List.all b Xk
def K0f (a:List Ev) (b:Nat×Nat):=Ln (List.getD a b.1 Lz).2.2.1
def Kzo (a:List Ev) (b:Nat):=decide (40<Nc (ByteArray.size (J6k a b).1))
def Kun (a:List Ev) (b:Nat):=bif Kzo a b then true else decide (6<Ln (J6i a b).1)
def Ktm (a:List Ev) (b:Nat):=bif Kun a b then true else decide (8<Ln (J6f a b).1)
def Ktk (a:Nat×Nat) (b:List Ev):=a.1<List.length b∧a.2≤Kf1 b a∧Kf1 b a≤6∧(bif List.all (List.drop a.2 (List.getD b a.1 ev0).2.2.1) fun(s:ByteArray)=> !decide (40<Nc (ByteArray.size s)) then List.all (List.drop (a.1+1) b) Xk else false)=List.all b Xk
def Ktg (a:Nat×Nat) (b:List Ev) (c:Nat×Nat):=Ktk a b∧c.1=a.1
theorem K5i:Ok Tryz.prog 13 Kbj:=okW K18 Tryz.f13 (fun xx=>Jz8 xx.1 xx.2.1) fun xx=>by
 obtain⟨(l:List Ev),(n:Int),_⟩:=xx
 refine(by kernel_rfl:(n≤1000000→Br (decide (n<Ln l)) (false=Xj l n) (∃(x:Nat),(0=Nc x∧l=l)∧Kku x l∧∀(x:Nat),Kku x l→Br (decide (Nc x<Ln l)) (T2 (Z11 x l) (T2 (Kzo l x=false→Z11 x l) (T2 (Kun l x=false→Z11 x l) (Tw (Ktm l x=false→Z11 x l))))∧Br (bif Ktm l x then true else decide (200<Nc (ByteArray.size (J6f l x).2))) (false=Xj l n) (∃(x0:Nat×Nat),(Nc x=Nc x0.1∧0=Nc x0.2∧l=l)∧(Ktk x0 l∧x0.1=x0.1)∧∀(x_1:Nat×Nat),Ktg x_1 l x0→Tw (Bd (Nc x_1.1) (Ln l))∧Br (decide (Nc x_1.2<K0f l x_1)) (T2 (Bd (Nc x_1.1) (Ln l)) (Tw (Bd (Nc x_1.2) (K0f l x_1)))∧Br (decide (40<Nc (ByteArray.size (List.getD (List.getD l x_1.1 Lz).2.2.1 x_1.2 B0)))) (false=Xj l n) (Iw (Nc x_1.2+1)∧∃(y:Nat×Nat),(Nc x_1.1=Nc y.1∧Nc x_1.2+1=Nc y.2∧l=l)∧Ktg y l x0∧Kf1 l y-y.2<Kf1 l x_1-x_1.2)) (Iw (Nc x_1.1+1)∧∃(y:Nat),(Nc x_1.1+1=Nc y∧l=l)∧Kku y l∧List.length l-y<List.length l-x))) (true=Xj l n)))=_).mp ?_
 delta Z11 Kf1 Lz J6k J6i J6f Kku K0f Kzo Kun Ktm Ktk Ktg Br Iw Bd T2 Tw Ln Nc B0
 intro hn
 refine⟨fun h=> ?_,fun h=>⟨(0:Nat),by(repeat' first|exact rfl|exact⟨⟩|apply And.intro|omega|dsimp only;omega),⟨Nat.zero_le _,rfl⟩,fun(k:Nat) hk=>⟨fun h1=> ?_,fun h1=> ?_⟩⟩⟩
 ·unfold Xj;rw[h];rfl
 ·have hsh:Xj l n=l.all Xk:=by unfold Xj;rw[h];rfl
  obtain⟨k1,k2⟩:=hk
  have hlt:k<l.length:=by simpa using h1
  have hn2:(l.length:Int)≤n:=by have:=of_decide_eq_false h;omega
  rw[Jp (d:=ev0) hlt,List.all_cons] at k2
  have hz:((0:Int),({data:={toList:=[]}}:ByteArray),([]:List ByteArray),([]:List Int),({data:={toList:=[]}}:ByteArray))=ev0:=rfl
  have hx:((0:Int)≤(k:Int)∧(k:Int)<(l.length:Int))=True:=eq_true (by omega)
  simp only[hz,hx,implies_true,true_and,and_true]
  refine⟨fun h2=> ?_,fun h2=> ?_⟩
  ·have h2:Xk (l.getD k ev0)=false:=by unfold Xk;rw[show Jgz (l.getD k ev0)=true from h2];rfl
   rw[h2] at k2
   rw[hsh,←k2];rfl
  ·have h2:Jgz (l.getD k ev0)=false:=h2
   have h6:(l.getD k ev0).2.2.1.length≤6:=by
    unfold Jgz at h2
    cases hc:decide (6<((l.getD k ev0).2.2.1.length:Int)) with
    |false=>have:=of_decide_eq_false hc;omega
    |true=>rw[hc] at h2;simp at h2
   have hand:∀u v:Bool,(bif u then v else false)=(u&&v):=by decide
   have hsb:Xk (l.getD k ev0)=(l.getD k ev0).2.2.1.all fun s=> !decide (40<(s.size:Int)):=by unfold Xk;rw[h2];rfl
   refine⟨(k,(0:Nat)),by(repeat' first|exact rfl|exact⟨⟩|apply And.intro|omega|dsimp only;omega),⟨hlt,Nat.zero_le _,h6,by rw[hand];rw[hsb] at k2;exact k2⟩,fun(x:Nat×Nat) hx=> ?_⟩
   obtain⟨k',j⟩:=x
   obtain⟨⟨j1,j2,j3,j4⟩,j5⟩:=hx
   have j5:k=k':=j5
   subst j5
   dsimp only at j1 j2 j3 j4⊢
   refine⟨by omega,fun h3=> ?_,fun h3=> ?_⟩
   ·have hj:j<(l.getD k ev0).2.2.1.length:=Int.ofNat_lt.1 (of_decide_eq_true h3)
    rw[Jp (d:=Jb) hj,List.all_cons] at j4
    refine⟨⟨by omega,by omega, ?_, ?_⟩,fun h4=> ?_,fun h4=>⟨?_,(k,j+1),⟨rfl,by simp⟩,⟨⟨hlt,by dsimp only;omega,j3, ?_⟩,rfl⟩, ?_⟩⟩
    ·exact⟨by omega,Int.ofNat_lt.2 hj⟩
    ·exact⟨by omega,Int.ofNat_lt.2 hj⟩
    ·have h4:decide (40<(((l.getD k ev0).2.2.1.getD j Jb).size:Int))=true:=h4
     rw[h4] at j4
     rw[hsh,←j4];rfl
    ·omega
    ·have h4:decide (40<(((l.getD k ev0).2.2.1.getD j Jb).size:Int))=false:=h4
     rw[h4] at j4
     exact j4
    ·dsimp only;omega
   ·have hj:¬j<(l.getD k ev0).2.2.1.length:=fun q=>of_decide_eq_false h3 (Int.ofNat_lt.2 q)
    rw[List.drop_eq_nil_of_le (by omega)] at j4
    exact⟨by omega,(k+1:Nat),by simp,⟨by omega,j4⟩,by omega⟩
 ·have hsh:Xj l n=l.all Xk:=by unfold Xj;rw[h];rfl
  obtain⟨k1,k2⟩:=hk
  have hlt:¬k<l.length:=by simpa using h1
  rw[List.drop_eq_nil_of_le (by omega)] at k2
  rw[hsh,←k2];rfl
abbrev K6r:=K18.add K5i
theorem Jze {k:ByteArray} (h:Yu k=false):(Zm k).2.2=false:=by
 have hne:∀w:ByteArray,Yu w=true→(k.toList==w.toList)=false:=fun w hw=>by
  cases hc:k.toList==w.toList with
  |false=>rfl
  |true=>
   have:=Ld hc
   subst this
   rw[hw] at h;cases h
 unfold Zm
 rw[hne Jt (by kernel_rfl),hne Ua (by kernel_rfl),hne Kk (by kernel_rfl),hne K2 (by kernel_rfl),hne Vl (by kernel_rfl),hne Ju (by kernel_rfl),hne Jq (by kernel_rfl),hne Kd (by kernel_rfl),hne Kc (by kernel_rfl),hne Jg (by kernel_rfl),hne Js (by kernel_rfl)]
 rfl
theorem Jm8 {k:ByteArray} (h:Yu k=true):(Zm k).2.2=true∧(Zm k).1.size=(Ji k).1.length∧(Zm k).2.1=(Ji k).2.1:=by
 rcases U3 h with h|h|h|h|h|h|h|h|h|h|h<;>subst h
 all_goals exact⟨by kernel_rfl,by kernel_rfl,by kernel_rfl⟩
def J9 (k:ByteArray):ByteArray×Int×Bool:=Zm k
def Kb9:Con:={args:=[aS],ress:=[(true,Kao)],owns:=[],pre:=fun _=>[],spec:=fun(k,_)=>(J9 k,())}
theorem Ka2:Ok Tryz.prog 110 Kb9:=Ka3
abbrev K17:=K6r.add Ka2
def ckN (ns:List ByteArray):Int:=Je (ns.map fun s=>bif Yh s then 0 else 8)
def ckV (vs:List Int):Int:=Je (vs.map fun n=>Kb n 0 999999999)
theorem Jzl (t:ByteArray):(t.toList==Jb.toList)= !decide (0<t.size):=by
 cases h:t.toList==Jb.toList with
 |true=>have:=Ld h;subst this;rfl
 | false =>
  have:0<t.size:=Nat.pos_of_ne_zero fun h0=>by
   have e:t.data.toList=[]:=List.eq_nil_of_length_eq_zero h0
   rw[Lib.toList_data,Lib.toList_data,e] at h
   exact nomatch (show true=false from h)
  rw[decide_eq_true this];rfl
theorem Yj (x:Int) (l:List Int):Je (x::l)=if x=0 then Je l else x:=rfl
def Kco:Con:={args:=[aEv],ress:=[I],owns:=[],pre:=fun(e,_)=>[e.2.2.1.length≤1000000,e.2.2.2.1.length≤1000000,∀s∈e.2.2.1,s.size≤1000000],spec:=fun(e,_)=>(Jc e,())}
abbrev Krf (n:Int) (k:ByteArray) (ns:List ByteArray) (vs:List Int) (t:ByteArray):Nat→Option Ann:=fun id=>if id=0 then some {X:=Nat,σ:=fun i=>⟨4,[(1, .one (.ptr 2 0)),(3, .one (.ptr 3 0)),(4, .one (.int .i64 i))],[(2, .box 67 [.int .i64 n, .str k, .sl 0, .sl 1, .str t]),(3, .box 208 [.str (J9 k).1, .int .i64 (J9 k).2.1, .bool (J9 k).2.2]),(0, .imm 9 .str ns),(1, .imm 3 sI vs)]⟩,inv:=fun i=>i≤ns.length∧ckN (ns.drop i)=ckN ns,mu:=fun i=>ns.length-i}
 else if id=2 then some {X:=Nat,σ:=fun i=>⟨4,[(1, .one (.ptr 2 0)),(3, .one (.ptr 3 0)),(5, .one (.int .i64 i))],[(2, .box 67 [.int .i64 n, .str k, .sl 0, .sl 1, .str t]),(3, .box 208 [.str (J9 k).1, .int .i64 (J9 k).2.1, .bool (J9 k).2.2]),(0, .imm 9 .str ns),(1, .imm 3 sI vs)]⟩,inv:=fun i=>i≤vs.length∧ckV (vs.drop i)=ckV vs,mu:=fun i=>vs.length-i}
 else none
def Z7 (a:Bt):=Nc (ByteArray.size (J9 a).1)
def Kli (a:Nat) (b:Li):=a≤List.length b∧ckV (List.drop a b)=ckV b
def Kk8 (a:Nat) (b:Ls):=a≤List.length b∧ckN (List.drop a b)=ckN b
def Kwp (a:Int) (b c:Bt) (d:Ls) (e:Li):=Si a (Sf b (Sf c (Sf (J9 b).1 (Si (J9 b).2.1 (Sf (J9 b).2.2 (Sf d (e=e)))))))
def Kvz (a:Nat) (b:Int) (c d:Bt) (e:Ls) (f:Li):=0=Nc a∧Kwp b c d e f
def Kvi (a b:Nat) (c:Int) (d e:Bt) (f:Ls) (g:Li):=Z91 a b∧Kwp c d e f g
theorem K46:Ok Tryz.prog 36 Kco:=okW K17 Tryz.f36 (fun xx=>Krf xx.1.1 xx.1.2.1 xx.1.2.2.1 xx.1.2.2.2.1 xx.1.2.2.2.2) fun xx=>by
 obtain⟨⟨(n:Int),(k:ByteArray),(ns:List ByteArray),(vs:List Int),(t:ByteArray)⟩,_⟩:=xx
 refine(by kernel_rfl:(Dl ns→Z56 vs→Jco ns→Br (Yw n 1 1000) (3=Z63 n k ns vs t) (Br (!(J9 k).2.2) (13=Z63 n k ns vs t) (Br (bif Ln ns !=Z7 k then true else Ln vs !=(J9 k).2.1) (2=Z63 n k ns vs t) (∃(x:Nat),Kvz x n k t ns vs∧Kk8 x ns∧∀(x:Nat),Kk8 x ns→Br (decide (Nc x<Z7 k)) (T2 (Bd (Nc x) (Ln ns)) (ByteArray.size (List.getD ns x B0)≤1000000)∧Br (!Yh (List.getD ns x B0)) (8=Z63 n k ns vs t) (Z14 x∧∃(y:Nat),Kvi x y n k t ns vs∧Kk8 y ns∧List.length ns-y<List.length ns-x)) (∃(x:Nat),Kvz x n k t ns vs∧Kli x vs∧∀(x:Nat),Kli x vs→Br (decide (Nc x<(J9 k).2.1)) (Tw (Bd (Nc x) (Ln vs))∧Br (Yw (Z17 vs x) 0 999999999) (3=Z63 n k ns vs t) (Z14 x∧∃(y:Nat),Kvi x y n k t ns vs∧Kli y vs∧J2q vs y x)) (Br (!Lb t B0) (1=Z63 n k ns vs t) (0=Z63 n k ns vs t)))))))=_).mp ?_
 delta Z7 Z14 Z17 Z56 Z63 Z91 Dl J2q Kli Jdi Kk8 Jco Kwp Kvz Kvi Br Iw Bd T2 Tw Sf Si Ln Nc B0 Lb
 intro h1 h2 h3
 have hE1:Kb n 1 1000=bif Yw n 1 1000 then 3 else 0:=rfl
 have hQ:J9 k=Zm k:=rfl
 refine⟨fun h=> ?_,fun h=>⟨fun h4=> ?_,fun h4=> ?_⟩⟩
 ·have e:Kb n 1 1000=3:=by rw[hE1,h];rfl
  unfold Jc
  rw[if_pos (by dsimp only;rw[e];decide),e]
 ·have e:Kb n 1 1000=0:=by rw[hE1,h];rfl
  have hk:Yu k=false:=by
   cases hk:Yu k with
   |false=>rfl
   |true=>
    have:=(Jm8 hk).1
    have h4:(!(Zm k).2.2)=true:=h4
    rw[this] at h4;cases h4
  unfold Jc
  rw[if_neg (by dsimp only;rw[e];decide)]
  dsimp only
  rw[hk];rfl
 have e:Kb n 1 1000=0:=by rw[hE1,h];rfl
 have hk:Yu k=true:=by
  cases hk:Yu k with
  |true=>rfl
  |false=>
   have:=Jze hk
   have h4:(!(Zm k).2.2)=false:=h4
   rw[this] at h4;cases h4
 obtain⟨f1,f2,f3⟩:=Jm8 hk
 rw[←hQ] at f1 f2 f3
 have hc:Jc (n,k,ns,vs,t)=if ns.length=(Ji k).1.length∧(vs.length:Int)=(Ji k).2.1 then Je [ckN ns,ckV vs,bif decide (0<t.size) then 1 else 0] else 2:=by
  unfold Jc
  rw[if_neg (by dsimp only;rw[e];decide)]
  dsimp only
  rw[hk,cond_true];rfl
 refine⟨fun h5=> ?_,fun h5=> ?_⟩
 ·rw[hc,if_neg fun q=> ?_]
  have a1:((ns.length:Int) !=((J9 k).1.size:Int))=false:=bne_eq_false_iff_eq.2 (by rw[f2];exact congrArg _ q.1)
  have a2:((vs.length:Int) !=(J9 k).2.1)=false:=bne_eq_false_iff_eq.2 (by rw[f3];exact q.2)
  have h5:(bif (ns.length:Int) !=((J9 k).1.size:Int) then true else(vs.length:Int) !=(J9 k).2.1)=true:=h5
  rw[a1,a2] at h5;cases h5
 have h5:(bif (ns.length:Int) !=((J9 k).1.size:Int) then true else(vs.length:Int) !=(J9 k).2.1)=false:=h5
 have a:=bn1 h5
 have a1:(ns.length:Int)=((J9 k).1.size:Int):=bne_eq_false_iff_eq.1 a.1
 have a2:(vs.length:Int)=(J9 k).2.1:=bne_eq_false_iff_eq.1 a.2
 rw[if_pos ⟨by rw[f2] at a1;omega,by rw[a2,f3]⟩] at hc
 refine⟨(0:Nat),by(repeat' first|exact rfl|exact⟨⟩|apply And.intro|omega|dsimp only;omega),⟨Nat.zero_le _,rfl⟩,fun(i:Nat) hi=>⟨fun h6=> ?_,fun h6=> ?_⟩⟩
 ·have h6:(i:Int)<((J9 k).1.size:Int):=of_decide_eq_true h6
  have hlt:i<ns.length:=by omega
  have hN:ckN (ns.drop i)=if(bif Yh (ns.getD i Jb) then(0:Int) else 8)=0 then ckN (ns.drop (i+1)) else bif Yh (ns.getD i Jb) then 0 else 8:=by
   rw[Jp (d:=Jb) hlt]
   exact Yj _ _
  refine⟨⟨by omega,by omega,h3 _ (Jd hlt)⟩,fun h7=> ?_,fun h7=>⟨by omega,(i+1:Nat),by(repeat' first|exact rfl|exact⟨⟩|apply And.intro|omega|dsimp only;omega),⟨by omega, ?_⟩,by omega⟩⟩
  ·have h7:(!Yh (ns.getD i Jb))=true:=h7
   have h7:Yh (ns.getD i Jb)=false:=by simpa using h7
   rw[h7] at hN
   have:ckN ns=8:=by rw[←hi.2,hN];rfl
   rw[hc,Yj,this];rfl
  ·have h7:(!Yh (ns.getD i Jb))=false:=h7
   have h7:Yh (ns.getD i Jb)=true:=by simpa using h7
   rw[h7] at hN
   rw[←hi.2,hN];rfl
 ·have h6:¬(i:Int)<((J9 k).1.size:Int):=of_decide_eq_false h6
  have hN:ckN ns=0:=by rw[←hi.2,List.drop_eq_nil_of_le (by omega)];rfl
  refine⟨(0:Nat),by(repeat' first|exact rfl|exact⟨⟩|apply And.intro|omega|dsimp only;omega),⟨Nat.zero_le _,rfl⟩,fun(j:Nat) hj=>⟨fun h8=> ?_,fun h8=> ?_⟩⟩
  ·have h8:(j:Int)<(J9 k).2.1:=of_decide_eq_true h8
   have hlt:j<vs.length:=by omega
   have hV:ckV (vs.drop j)=if Kb (vs.getD j 0) 0 999999999=0 then ckV (vs.drop (j+1)) else Kb (vs.getD j 0) 0 999999999:=by
    rw[Jp (d:=(0:Int)) hlt]
    exact Yj _ _
   have hW:Kb (vs.getD j 0) 0 999999999=bif Yw (vs.getD j 0) 0 999999999 then 3 else 0:=rfl
   refine⟨by omega,fun h7=> ?_,fun h7=>⟨by omega,(j+1:Nat),by(repeat' first|exact rfl|exact⟨⟩|apply And.intro|omega|dsimp only;omega),⟨by omega, ?_⟩,by omega⟩⟩
   ·rw[hW,h7] at hV
    have:ckV vs=3:=by rw[←hj.2,hV];rfl
    rw[hc,Yj,hN,if_pos rfl,Yj,this];rfl
   ·rw[hW,h7] at hV
    rw[←hj.2,hV];rfl
  ·have h8:¬(j:Int)<(J9 k).2.1:=of_decide_eq_false h8
   have hV:ckV vs=0:=by rw[←hj.2,List.drop_eq_nil_of_le (by omega)];rfl
   have hz:(t.toList==({data:={toList:=[]}}:ByteArray).toList)= !decide (0<t.size):=Jzl t
   rw[hz,hc,Yj,hN,if_pos rfl,Yj,hV,if_pos rfl]
   cases decide (0<t.size)
   ·exact⟨fun h=>(nomatch h),fun _=>rfl⟩
   ·exact⟨fun _=>rfl,fun h=>(nomatch h)⟩
abbrev K6q:=K17.add K46
abbrev K6p:=K6q
abbrev K6o:=K6p
abbrev K6n:=K6o
abbrev K6m:=K6n
abbrev K6l:=K6m
abbrev K16:=K6l
def Jhz (c:Int):Int:=bif c==115 then 0 else bif c==111 then 1 else bif c==120 then 2 else 3
def Jke (b:UInt8):Int×Bool:=bif decide ((97:Int)≤(b.toNat:Int)) then(Jhz b.toNat,true) else(Jhz (b.toNat+97-65),false)
theorem J18 (r:Reg) (c:Int) (s:ByteArray):Vi r (Jhz c) s=decide (0≤atS r c s):=by
 unfold atS Jhz
 cases h1:c==115 with
 |true=>rfl
 | false =>
  cases h2:c==111 with
  |true=>rfl
  |false=>
   cases h3:c==120 with
   |true=>rfl
   |false=>rfl
theorem Jrf {k:ByteArray} (h:Yu k=true):(Ji k).1=(J9 k).1.data.toList.map Jke∧((Ji k).1.drop 1).all (fun x=>x.2)=true:=by
 rcases U3 h with h|h|h|h|h|h|h|h|h|h|h<;>subst h
 all_goals exact⟨by kernel_rfl,by kernel_rfl⟩
theorem Jdm {r:Reg} {ns:List ByteArray}:∀{l:List (Int×Bool)} {i:Nat},l.all (fun x=>x.2)=true→Kr r ns l i=false
 |[],_,_=>rfl
 |(w,b)::l,i,h=>by
  rw[List.all_cons,Bool.and_eq_true] at h
  have hb:b=true:=h.1
  subst hb
  unfold Kr
  exact Jdm h.2
def Jr (r:Reg) (k:ByteArray) (ns:List ByteArray):Int:=bif Kh r ns (Ji k).1 0 then 10 else bif Kr r ns (Ji k).1 0 then 9 else 0
def Kbs:Con:={args:=[Xo,aEv],ress:=[I],owns:=[],pre:=fun(r,e,_)=>[Jj r,Yu e.2.1=true,e.2.2.1.length=(Ji e.2.1).1.length],spec:=fun(r,e,_)=>(Jr r e.2.1 e.2.2.1,())}
abbrev Kc6 (tk st:Int) (S:List Sta) (O:List Ord) (M:List Met) (X:List Out) (Q:List Per) (n:Int) (k:ByteArray) (ns:List ByteArray) (vs:List Int) (tx:ByteArray):Ann:={X:=Nat,σ:=fun i=>⟨9,[(2, .one (.ptr 7 0)),(3, .one (.ptr 8 0)),(5, .one (.str (J9 k).1)),(6, .one (.int .i64 i))],[(0, .imm 114 Xh S),(1, .imm 119 Yt O),(2, .imm 121 Xw M),(3, .imm 123 V5 X),(4, .imm 125 Ys Q),(5, .imm 9 .str ns),(6, .imm 3 sI vs),(7, .box 37 [.int .i64 tk, .int .i64 st, .sl 0, .sl 1, .sl 2, .sl 3, .sl 4]),(8, .box 67 [.int .i64 n, .str k, .sl 5, .sl 6, .str tx])]⟩,inv:=fun i=>i≤(J9 k).1.size∧Kh (tk,st,S,O,M,X,Q) ns ((Ji k).1.drop i) i=Kh (tk,st,S,O,M,X,Q) ns (Ji k).1 0,mu:=fun i=>(J9 k).1.size-i}
def K0s (a:Bt):=Nc (UInt8.toNat (List.getD (J9 a).1.data.toList 0 0))
def Kz8 (a:Bt) (b:Nat):=decide (97≤Nc (UInt8.toNat (List.getD (J9 a).1.data.toList b 0)))
def Kjt (a:Bt) (b:Nat):=Kz8 a b=true
def Kwh (a:Bt):=bif decide (0<Z7 a) then decide (K0s a<97) else false
def Khw (a:Bt):=Kwh a=true
def Khv (a:Nat) (b:Bt) (c d:Int) (e:List Sta) (f:List Ord) (g:List Met) (h:List Out) (i:List Per) (j:Ls):=a≤ByteArray.size (J9 b).1∧Kh (Z60 c d e f g h i) j (List.drop a (Ji b).1) a=Kh (Z60 c d e f g h i) j (Ji b).1 0
theorem Knk:Ok Tryz.prog 224 Kbs:=okW K16 Tryz.f224 (fun xx=>X3 (Kc6 xx.1.1 xx.1.2.1 xx.1.2.2.1 xx.1.2.2.2.1 xx.1.2.2.2.2.1 xx.1.2.2.2.2.2.1 xx.1.2.2.2.2.2.2 xx.2.1.1 xx.2.1.2.1 xx.2.1.2.2.1 xx.2.1.2.2.2.1 xx.2.1.2.2.2.2)) fun xx=>by
 obtain⟨⟨(tk:Int),(st:Int),(S:List Sta),(O:List Ord),(M:List Met),(X:List Out),(Q:List Per)⟩,⟨(n:Int),(k:ByteArray),(ns:List ByteArray),(vs:List Int),(tx:ByteArray)⟩,_⟩:=xx
 refine(by kernel_rfl:(Jw tk st S O M X Q→Yu k=true→List.length ns=List.length (Ji k).1→∃(x:Nat),Sf (J9 k).1 (0=Nc x∧Sf S (Sf O (Sf M (Sf X (Sf Q (Sf ns (Sf vs (Si tk (Si st (Si n (Sf k (tx=tx))))))))))))∧Khv x k tk st S O M X Q ns∧∀(x:Nat),Khv x k tk st S O M X Q ns→Br (decide (Nc x<Z7 k)) ((Bd (Nc x) (Z7 k)∧(Kjt k x→Bd (Nc x) (Z7 k))∧T2 (Kjt k x→Bd (Nc x) (Ln ns)) (Kjt k x→Jw tk st S O M X Q))∧Br (bif Kz8 k x then decide (atS (Z60 tk st S O M X Q) (Nc (UInt8.toNat (List.getD (J9 k).1.data.toList x 0))) (List.getD ns x B0)<0) else false) (10=Jr (Z60 tk st S O M X Q) k ns) (Z14 x∧∃(y:Nat),Sf (J9 k).1 (Z91 x y∧Sf S (Sf O (Sf M (Sf X (Sf Q (Sf ns (Sf vs (Si tk (Si st (Si n (Sf k (tx=tx))))))))))))∧Khv y k tk st S O M X Q ns∧ByteArray.size (J9 k).1-y<ByteArray.size (J9 k).1-x)) (((decide (0<Z7 k)=true→Bd 0 (Z7 k))∧(Khw k→Bd 0 (Z7 k))∧T2 (Khw k→Z95 ns) (Khw k→Jw tk st S O M X Q))∧Br (bif Kwh k then decide (0≤atS (Z60 tk st S O M X Q) (IntKind.wrap IntKind.u8 (IntKind.wrap IntKind.u8 (K0s k+97)-65)) (U0 ns)) else false) (9=Jr (Z60 tk st S O M X Q) k ns) (0=Jr (Z60 tk st S O M X Q) k ns)))=_).mp ?_
 delta Z7 Z14 Z60 Z91 Z95 U0 Jw K0s Kz8 Kjt Kwh Khw Khv Br Iw Bd T2 Sf Si Ln Nc B0
 intro hr hk hn
 obtain⟨f1,f2,f3⟩:=Jm8 hk
 have f2:(J9 k).1.size=(Ji k).1.length:=f2
 obtain⟨fr,fk⟩:=Jrf hk
 have hB:=Jit k
 have hfl:(J9 k).1.data.toList.length=(J9 k).1.size:=rfl
 have hb0:∀i,i<(J9 k).1.size→(Ji k).1.getD i (0,false)=Jke ((J9 k).1.data.toList.getD i 0):=fun i hi=>by
  rw[fr,List.getD_eq_getElem?_getD,List.getElem?_map,List.getD_eq_getElem?_getD]
  rw[List.getElem?_eq_getElem (by omega)];rfl
 refine⟨(0:Nat),by(repeat' first|exact rfl|exact⟨⟩|apply And.intro|omega|dsimp only;omega),⟨Nat.zero_le _,rfl⟩,fun(i:Nat) hi=>⟨fun h1=> ?_,fun h1=> ?_⟩⟩
 ·have hlt:i<(J9 k).1.size:=by simpa using h1
  have h0:=hi.2
  rw[Jp (d:=((0:Int),false)) (by omega),hb0 i hlt] at h0
  have hu:Kh (tk,st,S,O,M,X,Q) ns (Jke ((J9 k).1.data.toList.getD i 0)::(Ji k).1.drop (i+1)) i=bif (bif decide (97≤(((J9 k).1.data.toList.getD i 0).toNat:Int)) then decide (atS (tk,st,S,O,M,X,Q) (((J9 k).1.data.toList.getD i 0).toNat:Int) (ns.getD i Jb)<0) else false) then true else Kh (tk,st,S,O,M,X,Q) ns ((Ji k).1.drop (i+1)) (i+1):=by
   unfold Jke
   cases hc:decide ((97:Int)≤(((J9 k).1.data.toList.getD i 0).toNat:Int)) with
   |false=>rfl
   | true =>
    rw[cond_true,Kh,J18,cond_true]
    have:(!decide (0≤atS (tk,st,S,O,M,X,Q) (((J9 k).1.data.toList.getD i 0).toNat:Int) (ns.getD i Jb)))=decide (atS (tk,st,S,O,M,X,Q) (((J9 k).1.data.toList.getD i 0).toNat:Int) (ns.getD i Jb)<0):=by
     rw[Bool.eq_iff_iff];simp
    rw[this];rfl
  rw[hu] at h0
  refine⟨⟨by omega,fun _=>by omega,fun _=>by omega,fun _=>by omega,fun _=>hr⟩,fun h2=> ?_,fun h2=>⟨by omega,(i+1:Nat),by(repeat' first|exact rfl|exact⟨⟩|apply And.intro|omega|dsimp only;omega),⟨by omega, ?_⟩,by omega⟩⟩
  ·rw[show(bif decide (97≤(((J9 k).1.data.toList.getD i 0).toNat:Int)) then decide (atS (tk,st,S,O,M,X,Q) (((J9 k).1.data.toList.getD i 0).toNat:Int) (ns.getD i Jb)<0) else false)=true from h2,cond_true] at h0
   unfold Jr;rw[←h0];rfl
  ·rw[show(bif decide (97≤(((J9 k).1.data.toList.getD i 0).toNat:Int)) then decide (atS (tk,st,S,O,M,X,Q) (((J9 k).1.data.toList.getD i 0).toNat:Int) (ns.getD i Jb)<0) else false)=false from h2,cond_false] at h0
   exact h0
 ·have hlt:¬i<(J9 k).1.size:=by simpa using h1
  have h0:=hi.2
  rw[List.drop_eq_nil_of_le (by omega)] at h0
  have hu0:Kh (tk,st,S,O,M,X,Q) ns (Ji k).1 0=false:=h0.symm
  have hN:Jr (tk,st,S,O,M,X,Q) k ns=bif Kr (tk,st,S,O,M,X,Q) ns (Ji k).1 0 then 9 else 0:=by unfold Jr;rw[hu0];rfl
  have g0:∀{p:Prop},(bif decide ((0:Int)<((J9 k).1.size:Int)) then decide ((((J9 k).1.data.toList.getD 0 0).toNat:Int)<97) else false)=true→(J9 k).1.size≠0:=fun{p} h=>by
   intro q
   rw[q] at h
   cases h
  have hz:∀{b:Bool},(bif decide ((0:Int)<((J9 k).1.size:Int)) then b else false)=true→0<(J9 k).1.size:=fun{b} h=>by
   by_cases q:0<(J9 k).1.size
   ·exact q
   ·rw[decide_eq_false (show ¬(0:Int)<((J9 k).1.size:Int) by omega)] at h;cases h
  have key:(bif bif decide ((0:Int)<((J9 k).1.size:Int)) then decide ((((J9 k).1.data.toList.getD 0 0).toNat:Int)<97) else false then decide (0≤atS (tk,st,S,O,M,X,Q) (IntKind.u8.wrap (IntKind.u8.wrap ((((J9 k).1.data.toList.getD 0 0).toNat:Int)+97)-65)) (ns.getD 0 Jb)) else false)=Kr (tk,st,S,O,M,X,Q) ns (Ji k).1 0:=by
   by_cases q:0<(J9 k).1.size
   ·rw[decide_eq_true (show(0:Int)<((J9 k).1.size:Int) by omega),cond_true]
    have hc:=Jp (l:=(Ji k).1) (k:=0) (d:=((0:Int),false)) (by omega)
    rw[List.drop_zero,hb0 0 q] at hc
    rw[hc]
    unfold Jke
    by_cases q1:(97:Int)≤(((J9 k).1.data.toList.getD 0 0).toNat:Int)
    ·rw[decide_eq_true q1,decide_eq_false (show ¬(((J9 k).1.data.toList.getD 0 0).toNat:Int)<97 by omega)]
     exact(Jdm fk).symm
    ·rw[decide_eq_false q1,decide_eq_true (show(((J9 k).1.data.toList.getD 0 0).toNat:Int)<97 by omega)]
     rw[cond_true,cond_false,Kr,J18,Jdm fk,J24 (n:=(((J9 k).1.data.toList.getD 0 0).toNat:Int)+97) (by omega) (by omega),J24 (n:=(((J9 k).1.data.toList.getD 0 0).toNat:Int)+97-65) (by omega) (by omega)]
     show _=bif _ then true else false
     cases decide (0≤atS (tk,st,S,O,M,X,Q) ((((J9 k).1.data.toList.getD 0 0).toNat:Int)+97-65) (ns.getD 0 Jb))<;>rfl
   ·rw[decide_eq_false (show ¬(0:Int)<((J9 k).1.size:Int) by omega)]
    have:(Ji k).1=[]:=List.eq_nil_of_length_eq_zero (by omega)
    rw[this];rfl
  refine⟨⟨fun h=>⟨by decide,of_decide_eq_true h⟩,fun h=>⟨by decide,by have:=hz h;omega⟩,fun h=>⟨by decide,by have:=hz h;omega⟩,fun h=>⟨by decide,by have:=hz h;omega⟩,fun _=>hr⟩,fun h2=> ?_,fun h2=> ?_⟩
  ·rw[hN,show Kr (tk,st,S,O,M,X,Q) ns (Ji k).1 0=true from key.symm.trans h2];rfl
  ·rw[hN,show Kr (tk,st,S,O,M,X,Q) ns (Ji k).1 0=false from key.symm.trans h2];rfl
abbrev K15:=K16.add Knk
def V8 (Q:List Per) (s:ByteArray):Bool:=decide ((0:Int)<((Lv Q).filter fun p=>p.2.1.toList==s.toList).length)
theorem Jm7 (x:Per) (Q:List Per) (s:ByteArray):V8 (x::Q) s=bif (bif x.2.1.toList==s.toList then x.2.2 else false) then true else V8 Q s:=by
 unfold V8 Lv
 rw[List.filter_cons]
 cases h1:x.2.2 with
 |false=>
  rw[if_neg (by simp)]
  cases(x.2.1.toList==s.toList)<;>rfl
 | true =>
  rw[if_pos rfl,List.filter_cons]
  cases h2:(x.2.1.toList==s.toList) with
  |false=>rfl
  |true=>
   rw[if_pos rfl]
   exact decide_eq_true (by simp only[List.length_cons];omega)
def Kb7:Con:={args:=[Xo,aS],ress:=[Bo],owns:=[],pre:=fun((_,_,_,_,_,_,Q),_)=>[Q.length≤1000000],spec:=fun((_,_,_,_,_,_,Q),s,_)=>(V8 Q s,())}
abbrev Kc5 (tk st:Int) (S:List Sta) (O:List Ord) (M:List Met) (X:List Out) (Q:List Per) (s:ByteArray):Ann:={X:=Nat,σ:=fun k=>⟨6,[(1, .one (.str s)),(2, .one (.ptr 5 0)),(5, .one (.int .i64 k))],[(0, .imm 114 Xh S),(1, .imm 119 Yt O),(2, .imm 121 Xw M),(3, .imm 123 V5 X),(4, .imm 125 Ys Q),(5, .box 37 [.int .i64 tk, .int .i64 st, .sl 0, .sl 1, .sl 2, .sl 3, .sl 4])]⟩,inv:=fun k=>k≤Q.length∧V8 Q s=V8 (Q.drop k) s,mu:=fun k=>Q.length-k}
def Kad (a:List Per) (b:Nat):=(Jwt a b).1
def Kk7 (a:Nat) (b:List Per) (c:Bt):=a≤List.length b∧V8 b c=V8 (List.drop a b) c
theorem Kmw:Ok Tryz.prog 269 Kb7:=okW K15 Tryz.f269 (fun xx=>X3 (Kc5 xx.1.1 xx.1.2.1 xx.1.2.2.1 xx.1.2.2.2.1 xx.1.2.2.2.2.1 xx.1.2.2.2.2.2.1 xx.1.2.2.2.2.2.2 xx.2.1)) fun xx=>by
 obtain⟨⟨(tk:Int),(st:Int),(S:List Sta),(O:List Ord),(M:List Met),(X:List Out),(Q:List Per)⟩,(s:ByteArray),_⟩:=xx
 refine(by kernel_rfl:(Z44 Q→∃(x:Nat),Jxo s x S O M X Q tk st∧Kk7 x Q s∧∀(x:Nat),Kk7 x Q s→Br (Z99 x Q) (T2 (Bd (Nc x) (Ln Q)) (Tw (Lb (Kad Q x) s=true→Bd (Nc x) (Ln Q)))∧Br (bif Lb (Kad Q x) s then(Jwt Q x).2 else false) (true=V8 Q s) (Z14 x∧∃(y:Nat),Jxn s x y S O M X Q tk st∧Kk7 y Q s∧Jws Q y x)) (false=V8 Q s))=_).mp ?_
 delta Z14 Z44 Z91 Z99 Jwt Kad Jws Kk7 Jpu Jxo Jxn Br Iw Bd T2 Tw Sf Si Ln Nc B0 Lb
 intro hb
 refine⟨(0:Nat),by(repeat' first|exact rfl|exact⟨⟩|apply And.intro|omega|dsimp only;omega),⟨Nat.zero_le _,rfl⟩,fun(k:Nat) hk=>⟨fun h=> ?_,fun h=> ?_⟩⟩
 ·have hlt:k<Q.length:=by simpa using h
  have hd:=Jp (d:=Jig) hlt
  have h0:=hk.2
  rw[hd,Jm7] at h0
  refine⟨⟨by omega,by omega,fun _=>by omega,fun _=>by omega⟩,fun h1=> ?_,fun h1=>⟨by omega,(k+1:Nat),by(repeat' first|exact rfl|exact⟨⟩|apply And.intro|omega|dsimp only;omega),⟨by omega, ?_⟩,by omega⟩⟩
  ·rw[h0,show(bif (Q.getD k Jig).snd.fst.toList==s.toList then(Q.getD k Jig).snd.snd else false)=true from h1];rfl
  ·rw[h0,show(bif (Q.getD k Jig).snd.fst.toList==s.toList then(Q.getD k Jig).snd.snd else false)=false from h1];rfl
 ·have hlt:¬k<Q.length:=by simpa using h
  have:k=Q.length:=by omega
  rw[hk.2,this,List.drop_length];rfl
abbrev K14:=K15.add Kmw
def Kct (t a b:Int):Bool:=bif (bif decide (a<t) then true else decide (b≤a)) then true else decide (48<b-a)
def Jzw:Con:={args:=[aI, .val true Hp],ress:=[Bo],owns:=[],pre:=fun(_,s,_)=>[0≤s.1∧s.1≤999999999,0≤s.2∧s.2≤999999999],spec:=fun(t,s,_)=>(Kct t s.1 s.2,())}
theorem Kmx:Ok Tryz.prog 268 Jzw:=okW K14 Tryz.f268 na fun xx=>by
 obtain⟨(t:Int),⟨(a:Int),(b:Int)⟩,_⟩:=xx
 refine(by kernel_rfl:(Kae a→Kae b→((bif decide (a<t) then true else decide (b≤a))=false→Iw (b-a))∧(bif bif decide (a<t) then true else decide (b≤a) then true else decide (48<b-a))=Kct t a b)=_).mp ?_
 delta Kae Iw
 intro h1 h2
 exact⟨fun _=>by omega,rfl⟩
abbrev Jr0:=K14.add Kmx
def Ja6 (X:List Out):Prop:=(X.map fun x=>x.1).Nodup
theorem Jun:∀{l:List Out} {k:Nat} {x:Out},(l.map fun x=>x.1).Nodup→x∈l→∃i,Vk (fun y:Out=>y.1.toList==x.1.toList) l k=((k+i:Nat):Int)∧i<l.length∧l.getD i Ja3=x
 |[],_,_,_,h=>by cases h
 | y :: l, k, x, hn, h => by
  rw[List.map_cons,List.nodup_cons] at hn
  unfold Vk
  by_cases q:(y.1.toList==x.1.toList)=true
  ·have q1:=Ld q
   rw[if_pos q]
   rcases List.mem_cons.1 h with h|h
   ·exact⟨0,rfl,by simp,h.symm⟩
   ·exact absurd (q1▸List.mem_map_of_mem (f:=fun z:Out=>z.1) h) hn.1
  ·rw[if_neg q]
   rcases List.mem_cons.1 h with h|h
   ·subst h;exact absurd (beq_self_eq_true _) q
   ·obtain⟨i,h1,h2,h3⟩:=Jun (k:=k+1) hn.2 h
    exact⟨i+1,by rw[h1];congr 1;omega,by simp;omega,h3⟩
theorem J28 {X:List Out} (h:Ja6 X) {x:Out} (hx:x∈X):Lu X x.1=x:=by
 obtain⟨i,h1,_,h3⟩:=Jun (k:=0) h hx
 unfold Lu J5
 rw[h1,Nat.zero_add,Int.toNat_natCast]
 exact h3
theorem Jo0 {α:Type} {p:α→Bool}:∀{l:List α} {k:Nat},Vk p l k<0→∀x∈l,p x=false
 |[],_,_,x,hx=>by cases hx
 | y :: l, k, h, x, hx => by
  unfold Vk at h
  by_cases q:p y=true
  ·rw[if_pos q] at h;omega
  ·rw[if_neg q] at h
   rcases List.mem_cons.1 hx with hx|hx
   ·subst hx;simpa using q
   ·exact Jo0 h x hx
theorem Jqk {X:List Out} {x:Out} (h:Ja6 X) (hn:J5 X x.1<0):Ja6 (X++[x]):=by
 unfold Ja6 at h⊢
 rw[List.map_append,List.nodup_append]
 refine⟨h,by simp,fun a ha b hb=> ?_⟩
 obtain⟨y,hy,rfl⟩:=List.mem_map.1 ha
 have hb:b=x.1:=by simpa using hb
 subst hb
 intro e
 have:=Jo0 hn y hy
 rw[e,beq_self_eq_true] at this
 cases this
theorem J27 {X:List Out} {s:ByteArray} {v:Int} (h:Ja6 X) (hf:0≤J5 X s):Ja6 (Jds X s v):=by
 unfold Ja6 Jds at*
 have hl:=Uq (l:=X) (s:=s)
 rw[List.map_set]
 have:(X.map fun x=>x.1).set (J5 X s).toNat (Lu X s).1=X.map fun x=>x.1:=by
  apply List.ext_getElem?
  intro i
  rw[List.getElem?_set]
  by_cases q:(J5 X s).toNat=i
  ·rw[if_pos q]
   subst q
   rw[if_pos (by rw[List.length_map];omega),List.getElem?_map]
   unfold Lu
   rw[List.getD_eq_getElem?_getD,List.getElem?_eq_getElem (by omega)]
   rfl
  ·rw[if_neg q]
 rw[this]
 exact h
def Vd (r:Reg) (e:Ev):Int:=if decide (e.2.2.2.1.getD 0 0<r.1)=true then 22 else if Jr r e.2.1 e.2.2.1≠0 then Jr r e.2.1 e.2.2.1 else ckS r e
def Ye (r:Reg) (e:Ev):Reg:=if decide (e.2.2.2.1.getD 0 0<r.1)=true then r else if Jr r e.2.1 e.2.2.1≠0 then r else if ckS r e≠0 then(e.2.2.2.1.getD 0 0,r.2) else Jn r e
def Lo:Con:={args:=[Xo,aEv],ress:=[(true,Jdu),I],owns:=[],pre:=fun(r,e,_)=>[Jj r,Ja6 r.2.2.2.2.2.1,r.2.2.2.2.1.length<10000,Jc e=0,(e.2.1.toList==Js.toList)=false],spec:=fun(r,e,_)=>(Ye r e,Vd r e,())}
abbrev Kbd:Ann:={X:=Unit,σ:=fun _=>⟨0,[],[]⟩,inv:=fun _=>True,mu:=fun _=>0,un:=7777}
abbrev Lp:Nat→Option Ann:=fun id=>if id=1000034 then some Kbd else none
abbrev Xt (o:Option Ann):FuncId→Nat→Option Ann:=fun f id=>if f=226∨f=227 then(if id=1000073∨id=1000147∨id=1000195∨id=1000233∨id=1000052∨id=1000077∨id=1000097∨id=1000198 then some Kbd else if id=1∨id=3 then o else none) else none
theorem Jq4 {r:Reg} {k:ByteArray} {ns:List ByteArray} (h:Jr r k ns=0):Kh r ns (Ji k).1 0=false∧Kr r ns (Ji k).1 0=false:=by
 unfold Jr at h
 cases h1:Kh r ns (Ji k).1 0 with
 |true=>rw[h1] at h;cases h
 |false=>
  rw[h1,cond_false] at h
  cases h2:Kr r ns (Ji k).1 0 with
  |true=>rw[h2] at h;cases h
  |false=>exact⟨rfl,rfl⟩
theorem Jpq {r:Reg} {e:Ev} (h:decide (e.2.2.2.1.getD 0 0<r.1)=true):Ye r e=r∧Vd r e=22:=by unfold Ye Vd;rw[if_pos h,if_pos h];exact⟨rfl,rfl⟩
theorem Jln {r:Reg} {e:Ev} (h:decide (e.2.2.2.1.getD 0 0<r.1)=false) (h2:Jr r e.2.1 e.2.2.1≠0):Ye r e=r∧Vd r e=Jr r e.2.1 e.2.2.1:=by
 have a:¬decide (e.2.2.2.1.getD 0 0<r.1)=true:=by rw[h];simp
 unfold Ye Vd
 constructor
 ·rw[if_neg a,if_pos h2]
 ·rw[if_neg a,if_pos h2]
theorem Kc9 {r:Reg} {e:Ev} {c:Int} (h:decide (e.2.2.2.1.getD 0 0<r.1)=false) (h2:Jr r e.2.1 e.2.2.1=0) (h3:ckS r e=c) (h4:c≠0):Ye r e=(e.2.2.2.1.getD 0 0,r.2)∧Vd r e=c:=by
 have a:¬decide (e.2.2.2.1.getD 0 0<r.1)=true:=by rw[h];simp
 have b:¬Jr r e.2.1 e.2.2.1≠0:=by rw[h2];simp
 have d:ckS r e≠0:=by rw[h3];exact h4
 unfold Ye Vd
 rw[if_neg a,if_neg a,if_neg b,if_neg b,if_pos d]
 exact⟨rfl,h3⟩
theorem Kc7 {r:Reg} {e:Ev} (h:decide (e.2.2.2.1.getD 0 0<r.1)=false) (h2:Jr r e.2.1 e.2.2.1=0) (h3:ckS r e=0):Ye r e=Jn r e∧Vd r e=0:=by
 have a:¬decide (e.2.2.2.1.getD 0 0<r.1)=true:=by rw[h];simp
 have b:¬Jr r e.2.1 e.2.2.1≠0:=by rw[h2];simp
 have d:¬ckS r e≠0:=by rw[h3];simp
 unfold Ye Vd
 rw[if_neg a,if_neg a,if_neg b,if_neg b,if_neg d]
 exact⟨rfl,h3⟩
theorem Xp (n lo hi:Int):Kb n lo hi=bif Yw n lo hi then 3 else 0:=rfl
theorem Kda {r:Reg} {e:Ev} (h:decide (e.2.2.2.1.getD 0 0<r.1)=false) (h2:(Jr r e.2.1 e.2.2.1 !=0)=false):Vd r e=ckS r e:=by
 have h2:Jr r e.2.1 e.2.2.1=0:=by simpa using h2
 unfold Vd
 rw[if_neg (by rw[h];simp),if_neg (by rw[h2];simp)]
theorem Krh {r:Reg} {e:Ev} (h:decide (e.2.2.2.1.getD 0 0<r.1)=false) (h2:(Jr r e.2.1 e.2.2.1 !=0)=false) (h3:ckS r e≠0):Ye r e=(e.2.2.2.1.getD 0 0,r.2):=by
 have h2:Jr r e.2.1 e.2.2.1=0:=by simpa using h2
 exact(Kc9 h h2 rfl h3).1
theorem Kri {r:Reg} {e:Ev} (h:decide (e.2.2.2.1.getD 0 0<r.1)=false) (h2:(Jr r e.2.1 e.2.2.1 !=0)=false) (h3:ckS r e=0):Ye r e=Jn r e:=by
 have h2:Jr r e.2.1 e.2.2.1=0:=by simpa using h2
 exact(Kc7 h h2 h3).1
theorem Jm5 {α:Type} {p:α→Bool} {d:α}:∀{l:List α} {k:Nat},0≤Vk p l k→∃i,Vk p l k=((k+i:Nat):Int)∧p (l.getD i d)=true
 |[],k,h=>by unfold Vk at h;exact absurd h (by decide)
 | x :: l, k, h => by
  unfold Vk at h⊢
  by_cases q:p x=true
  ·rw[if_pos q];exact⟨0,rfl,q⟩
  ·rw[if_neg q] at h⊢
   obtain⟨i,h1,h2⟩:=Jm5 (d:=d) h
   exact⟨i+1,by rw[h1];congr 1;omega,h2⟩
theorem Jkn {X:List Out} {s:ByteArray} (h:0≤J5 X s):(Lu X s).1=s:=by
 unfold J5 at h
 obtain⟨i,h1,h2⟩:=Jm5 (d:=Ja3) h
 have:Lu X s=X.getD i Ja3:=by unfold Lu J5;rw[h1,Nat.zero_add];rfl
 rw[this]
 exact Ld h2
theorem Kp4 {M:List Met} {s:ByteArray} {h:Int}:decide (0≤K7 M s h)=(Lx M s h).2:=by
 unfold Lx
 by_cases q:0≤K7 M s h
 ·rw[if_pos q,decide_eq_true q]
 ·rw[if_neg q,decide_eq_false q]
theorem Jpn {f:Int→Bool} {a:Int} {k n:Nat} (h:k<n):Jrl f (a+(k:Int)) (n-k)=bif f (a+(k:Int)) then true else Jrl f (a+((k+1:Nat):Int)) (n-(k+1)):=by
 have hj:n-k=(n-(k+1))+1:=by omega
 rw[hj,Jrl]
 have:a+(k:Int)+1=a+((k+1:Nat):Int):=by push_cast;omega
 rw[this]
theorem Jpo {f:Int→Bool} {a:Int} {k n:Nat} (h:n≤k):Jrl f a (n-k)=false:=by
 have hj:n-k=0:=by omega
 rw[hj];rfl
theorem K5l (a b p:Int):decide (min a b<p)=bif decide (a<p) then true else decide (b<p):=by
 by_cases h:a<p
 ·rw[decide_eq_true h];exact decide_eq_true (by omega)
 ·rw[decide_eq_false h,cond_false]
  by_cases h2:b<p
  ·rw[decide_eq_true h2];exact decide_eq_true (by omega)
  ·rw[decide_eq_false h2];exact decide_eq_false (by omega)
theorem Kp9 {α:Type} {l:List α} {p:α→Bool}:decide ((0:Int)<(l.filter p).length)=l.any p:=by
 induction l with
 |nil=>rfl
 |cons x l ih=>
  rw[List.filter_cons,List.any_cons]
  cases h:p x with
  |true=>rw[if_pos rfl,Bool.true_or];exact decide_eq_true (by rw[List.length_cons];omega)
  |false=>rw[if_neg (by simp),Bool.false_or];exact ih
theorem J32 {X:List Out} {Q:List Per} {u:Int} (hu:Ja6 X) (hp:∀p∈Q,0≤J5 X p.2.1):decide ((0:Int)<((Lv Q).filter fun p=>decide ((Lu X p.2.1).2.2.1.2≤u)).length)=X.any fun x=>decide (x.2.2.1.2≤u)&&V8 Q x.1:=by
 rw[Kp9,Bool.eq_iff_iff,List.any_eq_true,List.any_eq_true]
 constructor
 ·rintro⟨p,h1,h2⟩
  have hq:=Jko h1
  have h3:=hp p hq
  refine⟨Lu X p.2.1,Jtx h3, ?_⟩
  rw[h2,Bool.true_and]
  unfold V8
  rw[Kp9,List.any_eq_true]
  exact⟨p,h1,by rw[Jkn h3,beq_self_eq_true]⟩
 ·rintro⟨x,h1,h2⟩
  rw[Bool.and_eq_true] at h2
  obtain⟨h2,h3⟩:=h2
  unfold V8 at h3
  rw[Kp9,List.any_eq_true] at h3
  obtain⟨p,h4,h5⟩:=h3
  have h6:p.2.1=x.1:=Ld h5
  exact⟨p,h4,by rw[h6,J28 hu h1];exact h2⟩
theorem Xm {X:List Ord} {s:ByteArray} (h:0≤Ku X s):(Xz X s).1=s:=by
 unfold Ku at h
 obtain⟨i,h1,h2⟩:=Jm5 (d:=Kl) h
 have:Xz X s=X.getD i Kl:=by unfold Xz Ku;rw[h1,Nat.zero_add];rfl
 rw[this]
 exact Ld h2
section
variable {r:Reg} {e:Ev}
theorem lfT (h:decide (e.2.2.2.1.getD 0 0<r.1)=true):True∧r=Ye r e∧22=Vd r e:=⟨trivial,(Jpq h).1.symm,(Jpq h).2.symm⟩
theorem lfN (h:decide (e.2.2.2.1.getD 0 0<r.1)=false) (h2:(Jr r e.2.1 e.2.2.1 !=0)=true):True∧r=Ye r e∧Jr r e.2.1 e.2.2.1=Vd r e:=⟨trivial,(Jln h (bne_iff_ne.mp h2)).1.symm,(Jln h (bne_iff_ne.mp h2)).2.symm⟩
theorem lfA {c:Int} {R:Reg} (h:decide (e.2.2.2.1.getD 0 0<r.1)=false) (h2:(Jr r e.2.1 e.2.2.1 !=0)=false) (h3:ckS r e=c) (h4:(c≠0∧(e.2.2.2.1.getD 0 0,r.2)=R)∨(c=0∧Jn r e=R)):True∧R=Ye r e∧c=Vd r e:=by
 rcases h4 with⟨h4,rfl⟩|⟨rfl,rfl⟩
 ·exact⟨trivial,(Krh h h2 (by rw[h3];exact h4)).symm,((Kda h h2).trans h3).symm⟩
 ·exact⟨trivial,(Kri h h2 h3).symm,((Kda h h2).trans h3).symm⟩
theorem Jxh (hr:Jj r) (hc:Jc e=0):e.2.2.1.length=(Ji e.2.1).1.length∧(e.2.2.2.1.length:Int)=(Ji e.2.1).2.1∧r.2.2.1.length≤6∧r.2.2.2.1.length≤32∧r.2.2.2.2.2.1.length≤16∧r.2.2.2.2.2.2.length≤16∧∀i,i<e.2.2.2.1.length→(0≤e.2.2.2.1.getD i 0∧e.2.2.2.1.getD i 0≤999999999):=
 have hE:=K9 hc
 ⟨hE.nn,hE.nv,hr.nS,hr.nO,hr.nX,hr.nQ,fun _ hi=>hE.val _ (Jd hi)⟩
theorem fcN {k ns} (a:(Jr r k ns !=0)=false):Kh r ns (Ji k).1 0=false:=(Jq4 (by simpa using a)).1
end
theorem K6b (a b:Bool):(a&&b)=bif a then b else false:=by cases a<;>rfl
theorem rcb:({data:={toList:=[]}}:ByteArray)=Jb:=congrArg (fun x=>x) rfl
theorem rcS (S s):List.getD S (J0 S s).toNat (Jb,0,0)=Hg S s:=congrArg (fun x=>x) rfl
theorem rcO (O s):List.getD O (Ku O s).toNat (Jb,Jb,Jb,(0,0),0,0,0)=Xz O s:=congrArg (fun x=>x) rfl
theorem rcX (X s):List.getD X (J5 X s).toNat (Jb,Jb,(0,0),0)=Lu X s:=congrArg (fun x=>x) rfl
theorem rcQ (Q s):List.getD Q (Uz Q s).toNat (Jb,Jb,false)=Jlw Q s:=congrArg (fun x=>x) rfl
def Z50 (a:List Met):=List.length a<10000
def Jhf (a:Li) (b:Int):=decide (Z85 a<b)
def Jhe (a:List Sta):=(0+List.length a)*32≤140737488355328
def Jhd (a:List Met):=(0+List.length a)*40≤140737488355328
def Jhc (a:List Per):=(0+List.length a)*40≤140737488355328
def Jhb (a:List Out):=(0+List.length a)*56≤140737488355328
def Jha (a:List Ord):=(0+List.length a)*88≤140737488355328
def Jcv (a:Li) (b:Int) (c:List Sta) (d:List Ord) (e:List Met) (f:List Out) (g:List Per):=(Z85 a,b,c,d,e,f,g)
def Jsc (a b:Int) (c:List Sta) (d:List Ord) (e:List Met) (f:List Out) (g:List Per) (h:Ls):=Jw a b c d e f g∧Sf true (List.length h=1)
variable (T:TypeId) (E C:List Ev) (G:List Reg) (tk st:Int) (S:List Sta) (O:List Ord) (M:List Met) (X:List Out) (Q:List Per) (n:Int) (ns:List ByteArray) (vs:List Int) (tx:ByteArray)
theorem Jhk:wpFG Tryz.prog Jr0.g Lp (Xt (none)) (Sx.look ([(225,Tryz.f225),(226,Tryz.f226),(227,Tryz.f227)]:List (Nat×Func))) Tryz.f132 Lo ((tk,st,S,O,M,X,Q),(n,Jt,ns,vs,tx),()):=by
 refine(by kernel_rfl:(Jw tk st S O M X Q→Ja6 X→Z50 M→Jc (Z28 n ns vs tx)=0→Lb Jt Js=false→Z96 vs∧Br (Jhf vs tk) (Sf true (Z60 tk st S O M X Q=Ye (Z60 tk st S O M X Q) (Z28 n ns vs tx)∧22=Vd (Z60 tk st S O M X Q) (Z28 n ns vs tx))) (Jsc tk st S O M X Q ns∧Br (Jr (Z60 tk st S O M X Q) Jt ns !=0) (Sf true (Z60 tk st S O M X Q=Ye (Z60 tk st S O M X Q) (Z28 n ns vs tx)∧Jr (Z60 tk st S O M X Q) Jt ns=Vd (Z60 tk st S O M X Q) (Z28 n ns vs tx))) (Jhe S∧Jha O∧Jhd M∧Jhb X∧Jhc Q∧Z84 vs∧Br (Yw (Z89 vs) 1 1000) (Z96 vs∧Sf true (Jcv vs st S O M X Q=Ye (Z60 tk st S O M X Q) (Z28 n ns vs tx)∧3=Vd (Z60 tk st S O M X Q) (Z28 n ns vs tx))) (Br (decide (6≤Ln ([]++S))) (Z96 vs∧Sf true (Jcv vs st S O M X Q=Ye (Z60 tk st S O M X Q) (Z28 n ns vs tx)∧5=Vd (Z60 tk st S O M X Q) (Z28 n ns vs tx))) (Kjb ns vs S∧Z96 vs∧Sf true ((Z85 vs,st,Kj6 S ns vs,O,M,X,Q)=Ye (Z60 tk st S O M X Q) (Z28 n ns vs tx)∧0=Vd (Z60 tk st S O M X Q) (Z28 n ns vs tx)))))))=_).mp ?_
 delta Z27 Z28 Z30 Z50 Z60 Z84 Z85 Z89 Z95 Z96 U0 Jw Jhf Jhe Jhd Jhc Jhb Jha Jcv Jsc Kj6 Kjb Br Bd T2 Tw Sf Ln B0 Lb Jt Js
 intro hr hu hm hc _
 obtain⟨hn,hv,nS,nO,nX,nQ,hx⟩:=Jxh hr hc
 simp only[Ky,List.length_cons,List.length_nil] at hn hv nS nO nX nQ hx
 have cE:ckS (tk,st,S,O,M,X,Q) (n,Jt,ns,vs,tx)=Jlh S vs:=by simp only[ckS,Ky]
 have sE:Jn (tk,st,S,O,M,X,Q) (n,Jt,ns,vs,tx)=(vs.getD 0 0,(Jaq (tk,st,S,O,M,X,Q) (n,Jt,ns,vs,tx)).2):=by simp only[Jn,doS,Ky]
 simp only[List.nil_append,rcb,rcS,rcO,rcX,rcQ,Prod.eta]
 repeat' first|exact lfT ‹_›|exact lfN ‹_› ‹_›|exact lfA ‹_› ‹_› (cE.trans (by clear cE sE hx hc;simp only[Jlh,Je,Xp,List.nil_append, *,cond_true,cond_false,reduceIte,decide_true,decide_false,Bool.not_true,Bool.not_false,Int.reduceEq,Int.reduceNe,ne_eq,not_false_eq_true,not_true_eq_false];first|done|rfl|decide)) (by first|exact .inl ⟨by decide,rfl⟩|exact .inl ⟨bne_iff_ne.mp ‹_›,rfl⟩|exact .inr ⟨rfl,sE.trans (by first|rfl|simp only[Jaq,List.nil_append])⟩)|apply And.intro|intro _
 all_goals first|omega|trivial|assumption
def Kz2 (a:List Sta) (b:Ls):=Gt ([]++a) (J2v a b) Z12
theorem Jl6:wpFG Tryz.prog Jr0.g Lp (Xt (none)) (Sx.look ([(225,Tryz.f225),(226,Tryz.f226),(227,Tryz.f227)]:List (Nat×Func))) Tryz.f132 Lo ((tk,st,S,O,M,X,Q),(n,Ua,ns,vs,tx),()):=by
 refine(by kernel_rfl:(Jw tk st S O M X Q→Ja6 X→Z50 M→Jc (Z9 n ns vs tx)=0→Lb Ua Js=false→Z96 vs∧Br (Jhf vs tk) (Sf true (Z60 tk st S O M X Q=Ye (Z60 tk st S O M X Q) (Z9 n ns vs tx)∧22=Vd (Z60 tk st S O M X Q) (Z9 n ns vs tx))) (Jsc tk st S O M X Q ns∧Br (Jr (Z60 tk st S O M X Q) Ua ns !=0) (Sf true (Z60 tk st S O M X Q=Ye (Z60 tk st S O M X Q) (Z9 n ns vs tx)∧Jr (Z60 tk st S O M X Q) Ua ns=Vd (Z60 tk st S O M X Q) (Z9 n ns vs tx))) (Jhe S∧Jha O∧Jhd M∧Jhb X∧Jhc Q∧Z84 vs∧Br (decide (1000<Z89 vs)) (Z96 vs∧Sf true (Jcv vs st S O M X Q=Ye (Z60 tk st S O M X Q) (Z9 n ns vs tx)∧3=Vd (Z60 tk st S O M X Q) (Z9 n ns vs tx))) (T2 (Z95 ns) (Z46 S∧T2 (Z30 vs) (Tw (Bd (J2v S ns) (Ln ([]++S)))))∧Z96 vs∧Sf true ((Z85 vs,st,List.set ([]++S) (Int.toNat (J2v S ns)) ((Kz2 S ns).1,(Kz2 S ns).2.1,Z89 vs),O,M,X,Q)=Ye (Z60 tk st S O M X Q) (Z9 n ns vs tx)∧0=Vd (Z60 tk st S O M X Q) (Z9 n ns vs tx))))))=_).mp ?_
 delta Z9 Z12 Z27 Z30 Z46 Z50 Z60 Z84 Z85 Z89 Z95 Z96 U0 Jw J2v Jhf Jhe Jhd Jhc Jhb Jha Jcv Jsc Kz2 Br Bd T2 Tw Sf Ln Gt B0 Lb Ua Js
 intro hr hu hm hc _
 obtain⟨hn,hv,nS,nO,nX,nQ,hx⟩:=Jxh hr hc
 simp only[U6,List.length_cons,List.length_nil] at hn hv nS nO nX nQ hx
 have cE:ckS (tk,st,S,O,M,X,Q) (n,Ua,ns,vs,tx)=Jnk vs:=by simp only[ckS,U6]
 have sE:Jn (tk,st,S,O,M,X,Q) (n,Ua,ns,vs,tx)=(vs.getD 0 0,(Fe (tk,st,S,O,M,X,Q) (n,Ua,ns,vs,tx)).2):=by simp only[Jn,doS,U6]
 have hp:decide (vs.getD 1 0<0)=false:=decide_eq_false (by have:=hx 1 (by omega);omega)
 have hF:(Jr (tk,st,S,O,M,X,Q) Ua ns !=0)=false→(0≤J0 S (ns.getD 0 Jb)∧J0 S (ns.getD 0 Jb)<S.length):=fun a=>by
  have z:=fcN a
  rw[U6] at z
  obtain⟨k0,z⟩:=Jl z
  exact⟨Jrd (k0 rfl),K1⟩
 simp only[List.nil_append,rcb,rcS,rcO,rcX,rcQ,Prod.eta]
 repeat' first|exact lfT ‹_›|exact lfN ‹_› ‹_›|exact lfA ‹_› ‹_› (cE.trans (by clear cE sE hF hx hc;simp only[Jnk,Kb,Bool.false_or,Xp,List.nil_append, *,cond_true,cond_false,reduceIte,decide_true,decide_false,Bool.not_true,Bool.not_false,Int.reduceEq,Int.reduceNe,ne_eq,not_false_eq_true,not_true_eq_false];first|done|rfl|decide)) (by first|exact .inl ⟨by decide,rfl⟩|exact .inl ⟨bne_iff_ne.mp ‹_›,rfl⟩|exact .inr ⟨rfl,sE.trans (by first|rfl|simp only[Fe,List.nil_append]|simp only[Fe,Xm (hF ‹_›).1])⟩)|apply And.intro|intro _
 all_goals first|omega|trivial|assumption|(have:=hF ‹_›;omega)
abbrev Jg8 (tk st:Int) (S:List Sta) (O:List Ord) (M:List Met) (X:List Out) (Q:List Per) (n:Int) (ns:List ByteArray) (vs:List Int) (tx:ByteArray):Ann:={X:=Nat,σ:=fun k=>⟨30,[(2, .one (.ptr 25 0)),(3, .one (.ptr 26 0)),(4, .one (.ptr 27 0)),(6, .one (.sl 6)),(7, .one (.ptr 28 0)),(8, .one (.int .i64 (vs.getD 1 0+k)))],[(5, .imm 9 .str ns),(6, .imm 3 sI vs),(8, .box 67 [.int .i64 n, .str Kk, .sl 5, .sl 6, .str tx]),(9, .box 37 Jjo),(23, .box 37 [.int .i64 tk, .int .i64 st, .sl 14, .sl 16, .sl 18, .sl 20, .sl 22]),(24, .sus [(3, .one (.ptr 8 0)),(4, .one (.ptr 9 0)),(7, .one (.ptr 23 0))]),(25, .box 37 [.int .i64 tk, .int .i64 st, .sl 14, .sl 16, .sl 18, .sl 20, .sl 22]),(26, .box 67 [.int .i64 n, .str Kk, .sl 5, .sl 6, .str tx]),(27, .box 37 Jjo),(28, .box 117 [.int .i64 (vs.getD 1 0), .int .i64 (vs.getD 2 0)]),(14, .own 114 Xh S),(16, .own 119 Yt O),(18, .own 121 Xw M),(20, .own 123 V5 X),(22, .own 125 Ys Q)]⟩,inv:=fun k=>k≤(vs.getD 2 0-vs.getD 1 0).toNat∧Jut S O X (n,Kk,ns,vs,tx)=Jrl (fun h=>decide (min (Xl S O X (ns.getD 1 Jb) h) (Xl S O X (ns.getD 2 Jb) h)<vs.getD 3 0)) (vs.getD 1 0+k) ((vs.getD 2 0-vs.getD 1 0).toNat-k),mu:=fun k=>(vs.getD 2 0-vs.getD 1 0).toNat-k}
def Jsf (a:Li) (b:Nat):=Z89 a+Nc b
def Kfx (a:Li) (b:Nat):=Jsf a b+1
def Kk0 (a:Li):=Int.toNat (Z81 a-Z89 a)
def Kkx (a:Li) (b:Nat):=Z89 a=Jsf a b
def J9g (a:Li) (b:Nat):=Kk0 a-b
def Kkt (a:Nat) (b:Li):=a≤Kk0 b
def Kkk (a:Li) (b:Nat):=decide (Jsf a b<Z81 a)
def Kjq (a:Li) (b c:Nat):=Kfx a b=Jsf a c
def Kjo (a:Li):=Kct (Z85 a) (Z89 a) (Z81 a)
def J82 (a:Li) (b:Int) (c:List Sta) (d:List Ord) (e:List Met) (f:List Out) (g:List Per) (h i:Int) (j:Ls) (k:Bt):=Jcv a b c d e f g=Ye (Z60 h b c d e f g) (Z10 i j a k)
def Kep (a:List Sta) (b:List Ord) (c:List Out) (d:Ls) (e:Li) (f:Nat):=decide (Xl a b c (Z86 d) (Jsf e f)<Ja5 e)=false
def Khz (a:Li) (b c:Nat):=J9g a b<J9g a c
def Khf (a:Li):=T2 (Z27 a) ((0≤Z89 a∧Z89 a≤999999999)∧0≤Z81 a∧Z81 a≤999999999)
def Kgx (a:Nat) (b:Li) (c:List Sta) (d:List Ord) (e:List Out) (f:Int) (g:Ls) (h:Bt):=Kkt a b∧Jut c d e (Z10 f g b h)=Jrl (fun(h:Int)=>decide (min (Xl c d e (Jji g) h) (Xl c d e (J6w g) h)<Ja5 b)) (Jsf b a) (J9g b a)
def Kgw (a:Bt) (b:Li) (c:List Sta) (d:List Ord) (e:List Met) (f:List Out) (g:List Per):=Sf a (Si 0 (Si 0 (Sf Jo (Sf Jo (Sf Jo (Sf Jo (Sf Jo (Si (Z89 b) (Si (Z81 b) (Sf c (Sf d (Sf e (Sf f (g=g))))))))))))))
def J7t (a:Ls) (b:Li) (c:Int) (d:Bt) (e f:Int) (g:List Sta) (h:List Ord) (i:List Met) (j:List Out) (k:List Per):=Sf a (Sf b (Si c (Sf Kk (Sf d (Si 0 (Si 0 (Sf Jo (Sf Jo (Sf Jo (Sf Jo (Sf Jo (Si e (Si f (Si e (Si f (Si c (Sf Kk (Kgw d b g h i j k))))))))))))))))))
theorem Jl7:wpFG Tryz.prog Jr0.g Lp (Xt (some (Jg8 tk st S O M X Q n ns vs tx))) (Sx.look ([(225,Tryz.f225),(226,Tryz.f226),(227,Tryz.f227)]:List (Nat×Func))) Tryz.f132 Lo ((tk,st,S,O,M,X,Q),(n,Kk,ns,vs,tx),()):=by
 refine(by kernel_rfl:(Jw tk st S O M X Q→Ja6 X→Z50 M→Jc (Z10 n ns vs tx)=0→Lb Kk Js=false→Z96 vs∧Br (Jhf vs tk) (Sf true (Z60 tk st S O M X Q=Ye (Z60 tk st S O M X Q) (Z10 n ns vs tx)∧22=Vd (Z60 tk st S O M X Q) (Z10 n ns vs tx))) ((Jw tk st S O M X Q∧Sf true (Jsi ns))∧Br (Jr (Z60 tk st S O M X Q) Kk ns !=0) (Sf true (Z60 tk st S O M X Q=Ye (Z60 tk st S O M X Q) (Z10 n ns vs tx)∧Jr (Z60 tk st S O M X Q) Kk ns=Vd (Z60 tk st S O M X Q) (Z10 n ns vs tx))) (Jhe S∧Jha O∧Jhd M∧Jhb X∧Jhc Q∧J9n vs∧T2 (Z90 ns) (Tw (J2y ns))∧Br (Klc ns) (Z96 vs∧Sf true (J82 vs st S O M X Q tk n ns tx∧24=Vd (Z60 tk st S O M X Q) (Z10 n ns vs tx))) (Khf vs∧Br (Kjo vs) (Z96 vs∧Sf true (J82 vs st S O M X Q tk n ns tx∧14=Vd (Z60 tk st S O M X Q) (Z10 n ns vs tx))) (Z97 vs∧Br (Yw (Ja5 vs) 1 1000) (Z96 vs∧Sf true (J82 vs st S O M X Q tk n ns tx∧3=Vd (Z60 tk st S O M X Q) (Z10 n ns vs tx))) (∃(x:Nat),(Kkx vs x∧J7t ns vs n tx tk st S O M X Q)∧Kgx x vs S O X n ns tx∧∀(x:Nat),Kgx x vs S O X n ns tx→Br (Kkk vs x) (T2 (Z90 ns) (Jw tk st S O M X Q∧J2k S ns∧T2 (Z24 vs) (T2 (Kep S O X ns vs x→J2y ns) ((Kep S O X ns vs x→Jw tk st S O M X Q)∧(Kep S O X ns vs x→0≤J0 S (Z93 ns))∧Tw (Kep S O X ns vs x→Z24 vs))))∧Br (bif decide (Xl S O X (Z86 ns) (Jsf vs x)<Ja5 vs) then true else decide (Xl S O X (Z93 ns) (Jsf vs x)<Ja5 vs)) (Z96 vs∧Sf true (J82 vs st S O M X Q tk n ns tx∧4=Vd (Z60 tk st S O M X Q) (Z10 n ns vs tx))) (Iw (Kfx vs x)∧∃(y:Nat),(Kjq vs x y∧J7t ns vs n tx tk st S O M X Q)∧Kgx y vs S O X n ns tx∧Khz vs y x)) (Br (decide (32≤Ln O)) (Z96 vs∧Sf true (J82 vs st S O M X Q tk n ns tx∧5=Vd (Z60 tk st S O M X Q) (Z10 n ns vs tx))) (T2 (Z95 ns) (T2 (Z90 ns) (T2 (J2y ns) (T2 (Z24 vs) (T2 (Z90 ns) (Z46 S∧T2 (Bd (Jxy S ns) (Ln S)) ((List.length O+1)*88≤140737488355328))))))∧Z96 vs∧Sf true ((Z85 vs,st,S,O++[(U0 ns,Z86 ns,Z93 ns,J9k vs,Ja5 vs,(Gt S (Jxy S ns) Z12).2.2,Z67)],M,X,Q)=Ye (Z60 tk st S O M X Q) (Z10 n ns vs tx)∧0=Vd (Z60 tk st S O M X Q) (Z10 n ns vs tx))))))))))=_).mp ?_
 delta Z10 Z12 Z23 Z24 Z27 Z30 Z46 Z50 Z60 Z67 Z81 Z85 Z86 Z89 Z90 Z93 Z95 Z96 Z97 Ja5 U0 J2y Jji J6w Jsi Jw Jo Jxy Jsf Jhf Jhe Jhd Jhc Jhb Jha J2k Kfx Jcv J9n J9k Klc Kk0 Kkx J9g Kkt Kkk Kjq Kjo J82 Kep Khz Khf Kgx Kgw J7t Br Iw Bd T2 Tw Sf Si Ln Nc Gt B0 Lb Kk Js
 intro hr hu hm hc _
 obtain⟨hn,hv,nS,nO,nX,nQ,hx⟩:=Jxh hr hc
 simp only[Uo,List.length_cons,List.length_nil] at hn hv nS nO nX nQ hx
 have cE:ckS (tk,st,S,O,M,X,Q) (n,Kk,ns,vs,tx)=Jbv S O X (n,Kk,ns,vs,tx):=by simp only[ckS,Uo]
 have sE:Jn (tk,st,S,O,M,X,Q) (n,Kk,ns,vs,tx)=(vs.getD 0 0,(Fi (tk,st,S,O,M,X,Q) (n,Kk,ns,vs,tx)).2):=by simp only[Jn,doS,Uo]
 have hF:(Jr (tk,st,S,O,M,X,Q) Kk ns !=0)=false→(0≤J0 S (ns.getD 1 Jb)∧J0 S (ns.getD 1 Jb)<S.length)∧(0≤J0 S (ns.getD 2 Jb)∧J0 S (ns.getD 2 Jb)<S.length):=fun a=>by
  have z:=fcN a
  rw[Uo] at z
  obtain⟨k0,z⟩:=Jl z
  obtain⟨k1,z⟩:=Jl z
  obtain⟨k2,z⟩:=Jl z
  exact⟨⟨Jrd (k1 rfl),K1⟩,⟨Jrd (k2 rfl),K1⟩⟩
 have v1:=hx 1 (by omega)
 have v2:=hx 2 (by omega)
 have v3:=hx 3 (by omega)
 have pE:Zf (n,Kk,ns,vs,tx)=bif Kct (vs.getD 0 0) (vs.getD 1 0) (vs.getD 2 0) then 14 else 0:=rfl
 simp only[List.nil_append,rcb,rcS,rcO,rcX,rcQ,Prod.eta]
 repeat' first|exact lfT ‹_›|exact lfN ‹_› ‹_›|exact lfA ‹_› ‹_› (cE.trans (by clear cE sE hF hx hc;simp only[Jbv,Jg5,Je,Xp,List.nil_append, *,cond_true,cond_false,reduceIte,decide_true,decide_false,Bool.not_true,Bool.not_false,Int.reduceEq,Int.reduceNe,ne_eq,not_false_eq_true,not_true_eq_false];first|done|rfl|decide)) (by first|exact .inl ⟨by decide,rfl⟩|exact .inl ⟨bne_iff_ne.mp ‹_›,rfl⟩|exact .inr ⟨rfl,sE.trans (by first|rfl|(simp only[Fi,List.nil_append];done)|simp only[Fi,Xm (hF ‹_›).1])⟩)|(refine⟨(0:Nat),by(repeat' first|exact rfl|exact⟨⟩|apply And.intro|omega|dsimp only;omega),⟨Nat.zero_le _,by simp[Hb,Vr,Jut]⟩,fun(k:Nat) hk=>⟨fun h1=> ?_,fun h1=> ?_⟩⟩;obtain⟨k1,k2⟩:=hk;replace h1:=of_decide_eq_true h1;rw[Jpn (by omega)] at k2;rw[K5l] at k2;rotate_left;obtain⟨k1,k2⟩:=hk;replace h1:=of_decide_eq_false h1;rw[Jpo (by omega)] at k2)|(refine⟨(k+1:Nat),by(repeat' first|exact rfl|exact⟨⟩|apply And.intro|omega|dsimp only;omega),⟨by omega, ?_⟩,by omega⟩;rw[k2,show(bif decide (Xl S O X (ns.getD 1 Jb) (vs.getD 1 0+k)<vs.getD 3 0) then true else decide (Xl S O X (ns.getD 2 Jb) (vs.getD 1 0+k)<vs.getD 3 0))=false from ‹_›];rfl)|apply And.intro|intro _
 all_goals first|omega|trivial|assumption|(have:=hF ‹_›;omega)
def Kfq (a:List Ord) (b:Ls):=Bd (Jp3 a b) (Ln ([]++a))
def Kkv (a:List Ord) (b:Ls):=Tw (Kfq a b)
def J81 (a:Li) (b:Int) (c:List Sta) (d:List Ord) (e:List Met) (f:List Out) (g:List Per) (h i:Int) (j:Ls) (k:Bt):=Jcv a b c d e f g=Ye (Z60 h b c d e f g) (Z8 i j a k)
def Kip (a:List Ord) (b:Ls):=Gt ([]++a) (Jp3 a b) Jdh
def J8z (a:List Ord) (b:Ls):=(Kip a b).1
def Kin (a:List Ord) (b:Ls):=(Kip a b).2
def Kil (a:List Ord) (b:Ls):=(Kin a b).2
def Kik (a:List Ord) (b:Ls):=(Kin a b).1
def Kih (a:List Ord) (b:Ls):=(Kil a b).1
def Kig (a:List Ord) (b:Ls):=(Kil a b).2
def Kif (a:List Ord) (b:Ls):=(Kig a b).2
def Kie (a:List Ord) (b:Ls):=(Kig a b).1
def Keo (a:List Ord) (b:Ls):=(Kif a b).1
def Ken (a:List Ord) (b:Ls):=(Kif a b).2
def Kic (a:List Ord) (b:Ls):=(Ken a b).2
def Keg (a:List Ord) (b:Ls):=E2 (Kie a b)
def Kvh (a:List Ord) (b:Ls) (c:Li):=decide (Keo a b<Z81 c)
def Ku8 (a:List Ord) (b:Ls) (c:Li):=Kvh a b c=false
theorem Jl8:wpFG Tryz.prog Jr0.g Lp (Xt (none)) (Sx.look ([(225,Tryz.f225),(226,Tryz.f226),(227,Tryz.f227)]:List (Nat×Func))) Tryz.f132 Lo ((tk,st,S,O,M,X,Q),(n,K2,ns,vs,tx),()):=by
 refine(by kernel_rfl:(Jw tk st S O M X Q→Ja6 X→Z50 M→Jc (Z8 n ns vs tx)=0→Lb K2 Js=false→Z96 vs∧Br (Jhf vs tk) (Sf true (Z60 tk st S O M X Q=Ye (Z60 tk st S O M X Q) (Z8 n ns vs tx)∧22=Vd (Z60 tk st S O M X Q) (Z8 n ns vs tx))) (Jsc tk st S O M X Q ns∧Br (Jr (Z60 tk st S O M X Q) K2 ns !=0) (Sf true (Z60 tk st S O M X Q=Ye (Z60 tk st S O M X Q) (Z8 n ns vs tx)∧Jr (Z60 tk st S O M X Q) K2 ns=Vd (Z60 tk st S O M X Q) (Z8 n ns vs tx))) (Jhe S∧Jha O∧Jhd M∧Jhb X∧Jhc Q∧T2 (Z95 ns) (Z57 O∧Kkv O ns)∧T2 (Z30 vs) (Z96 vs)∧Br (Kk2 vs) (Z96 vs∧Sf true (J81 vs st S O M X Q tk n ns tx∧11=Vd (Z60 tk st S O M X Q) (Z8 n ns vs tx))) (Z84 vs∧Br (!Kn (Keg O ns) (Z89 vs)) (Z96 vs∧Sf true (J81 vs st S O M X Q tk n ns tx∧14=Vd (Z60 tk st S O M X Q) (Z8 n ns vs tx))) (T2 (Z30 vs) (Z67≤Kic O ns)∧Br (!J1 (J8z O ns,Kik O ns,Kih O ns,Keg O ns,Keo O ns,E2 (Ken O ns)) (Z89 vs)) (Z96 vs∧Sf true (J81 vs st S O M X Q tk n ns tx∧23=Vd (Z60 tk st S O M X Q) (Z8 n ns vs tx))) (T2 (Z30 vs) (Jw tk st S O M X Q)∧Br (Lx M (J8z O ns) (Z89 vs)).2 (Z96 vs∧Sf true (J81 vs st S O M X Q tk n ns tx∧9=Vd (Z60 tk st S O M X Q) (Z8 n ns vs tx))) (T2 (Z23 vs) (T2 (Ku8 O ns vs→Z24 vs) (Tw (Ku8 O ns vs→Z23 vs)))∧Br (bif Kvh O ns vs then true else Kk1 vs) (Z96 vs∧Sf true (J81 vs st S O M X Q tk n ns tx∧3=Vd (Z60 tk st S O M X Q) (Z8 n ns vs tx))) (Kib vs M∧Z96 vs∧Sf true ((Z85 vs,st,S,O,M++[(J8z O ns,Kjw vs)],X,Q)=Ye (Z60 tk st S O M X Q) (Z8 n ns vs tx)∧0=Vd (Z60 tk st S O M X Q) (Z8 n ns vs tx))))))))))=_).mp ?_
 delta Z8 Z23 Z24 Z27 Z30 Z50 Z57 Z60 Z66 Z67 Z81 Z84 Z85 Z89 Z95 Z96 Ja5 U0 Jw Jp3 Jhf Jhe Jhd Jhc Jhb Jha Jcv Jdh Kfq Kk2 Kk1 Kkv Jsc Kjw J81 Kip J8z Kin Kil Kik Kih Kig Kif Kie Keo Ken Kic Kib Keg Kvh Ku8 Br Bd T2 Tw Sf Ln Gt B0 Lb E2 K2 Js
 intro hr hu hm hc _
 obtain⟨hn,hv,nS,nO,nX,nQ,hx⟩:=Jxh hr hc
 simp only[Up,List.length_cons,List.length_nil] at hn hv nS nO nX nQ hx
 have cE:ckS (tk,st,S,O,M,X,Q) (n,K2,ns,vs,tx)=Jli O M ns vs:=by simp only[ckS,Up]
 have sE:Jn (tk,st,S,O,M,X,Q) (n,K2,ns,vs,tx)=(vs.getD 0 0,(Fj (tk,st,S,O,M,X,Q) (n,K2,ns,vs,tx)).2):=by simp only[Jn,doS,Up]
 have hF:(Jr (tk,st,S,O,M,X,Q) K2 ns !=0)=false→(0≤Ku O (ns.getD 0 Jb)∧Ku O (ns.getD 0 Jb)<O.length):=fun a=>by
  have z:=fcN a
  rw[Up] at z
  obtain⟨k0,z⟩:=Jl z
  exact⟨J1z (k0 rfl),Ux⟩
 have hP:(Jr (tk,st,S,O,M,X,Q) K2 ns !=0)=false→-1≤(Xz O (ns.getD 0 Jb)).2.2.2.2.2.2:=fun a=>(hr.ord _ (Jbg (hF a).1)).trip.1
 simp only[List.nil_append,rcb,rcS,rcO,rcX,rcQ,Prod.eta]
 repeat' first|exact lfT ‹_›|exact lfN ‹_› ‹_›|exact lfA ‹_› ‹_› (cE.trans (by have hp:=hP ‹_›;clear cE sE hF hP hx hc;simp only[Jli,Kp4,Je,Xp,List.nil_append, *,cond_true,cond_false,reduceIte,decide_true,decide_false,Bool.not_true,Bool.not_false,Int.reduceEq,Int.reduceNe,ne_eq,not_false_eq_true,not_true_eq_false];first|done|rfl|decide)) (by first|exact .inl ⟨by decide,rfl⟩|exact .inl ⟨bne_iff_ne.mp ‹_›,rfl⟩|exact .inr ⟨rfl,sE.trans (by first|rfl|(simp only[Fj,List.nil_append];done)|simp only[Fj,Xm (hF ‹_›).1])⟩)|apply And.intro|intro _
 all_goals first|omega|trivial|assumption|exact hP ‹_›|(have:=hF ‹_›;omega)
def Kv9 (a:List Ord) (b:Ls):=decide (0≤Kic a b)
def Kvr (a:List Ord) (b:Ls):=Kv9 a b=false
theorem Jqd:wpFG Tryz.prog Jr0.g Lp (Xt (none)) (Sx.look ([(225,Tryz.f225),(226,Tryz.f226),(227,Tryz.f227)]:List (Nat×Func))) Tryz.f132 Lo ((tk,st,S,O,M,X,Q),(n,Vl,ns,vs,tx),()):=by
 refine(by kernel_rfl:(Jw tk st S O M X Q→Ja6 X→Z50 M→Jc (Z6 n ns vs tx)=0→Lb Vl Js=false→Z96 vs∧Br (Jhf vs tk) (Sf true (Z60 tk st S O M X Q=Ye (Z60 tk st S O M X Q) (Z6 n ns vs tx)∧22=Vd (Z60 tk st S O M X Q) (Z6 n ns vs tx))) (Jsc tk st S O M X Q ns∧Br (Jr (Z60 tk st S O M X Q) Vl ns !=0) (Sf true (Z60 tk st S O M X Q=Ye (Z60 tk st S O M X Q) (Z6 n ns vs tx)∧Jr (Z60 tk st S O M X Q) Vl ns=Vd (Z60 tk st S O M X Q) (Z6 n ns vs tx))) (Jhe S∧Jha O∧Jhd M∧Jhb X∧Jhc Q∧T2 (Z95 ns) (Z57 O)∧T2 (Kfq O ns) (T2 (Kvr O ns→Kfq O ns) (Tw (Kvr O ns→Z27 vs)))∧Br (bif Kv9 O ns then true else decide ((Kie O ns).2≤Z85 vs)) (Z96 vs∧Sf true (Jcv vs st S O M X Q=Ye (Z60 tk st S O M X Q) (Z6 n ns vs tx)∧23=Vd (Z60 tk st S O M X Q) (Z6 n ns vs tx))) (T2 (Z27 vs) (Kkv O ns)∧Z96 vs∧Sf true ((Z85 vs,st,S,List.set ([]++O) (Int.toNat (Jp3 O ns)) (J8z O ns,Kik O ns,Kih O ns,Keg O ns,Keo O ns,(Ken O ns).1,Z85 vs),M,X,Q)=Ye (Z60 tk st S O M X Q) (Z6 n ns vs tx)∧0=Vd (Z60 tk st S O M X Q) (Z6 n ns vs tx))))))=_).mp ?_
 delta Z6 Z27 Z50 Z57 Z60 Z66 Z85 Z95 Z96 U0 Jw Jp3 Jhf Jhe Jhd Jhc Jhb Jha Jcv Jdh Kfq Kkv Jsc Kip J8z Kin Kil Kik Kih Kig Kif Kie Keo Ken Kic Keg Kv9 Kvr Br Bd T2 Tw Sf Ln Gt B0 Lb E2 Vl Js
 intro hr hu hm hc _
 obtain⟨hn,hv,nS,nO,nX,nQ,hx⟩:=Jxh hr hc
 simp only[Vf,List.length_cons,List.length_nil] at hn hv nS nO nX nQ hx
 have cE:ckS (tk,st,S,O,M,X,Q) (n,Vl,ns,vs,tx)=Jcg O ns vs:=by simp only[ckS,Vf]
 have sE:Jn (tk,st,S,O,M,X,Q) (n,Vl,ns,vs,tx)=(vs.getD 0 0,(Fd (tk,st,S,O,M,X,Q) (n,Vl,ns,vs,tx)).2):=by simp only[Jn,doS,Vf]
 have hF:(Jr (tk,st,S,O,M,X,Q) Vl ns !=0)=false→(0≤Ku O (ns.getD 0 Jb)∧Ku O (ns.getD 0 Jb)<O.length):=fun a=>by
  have z:=fcN a
  rw[Vf] at z
  obtain⟨k0,z⟩:=Jl z
  exact⟨J1z (k0 rfl),Ux⟩
 have hP:(Jr (tk,st,S,O,M,X,Q) Vl ns !=0)=false→((Xz O (ns.getD 0 Jb)).2.2.2.2.2.2 != -1)=decide (0≤(Xz O (ns.getD 0 Jb)).2.2.2.2.2.2):=fun a=>by
  have h: -1≤(Xz O (ns.getD 0 Jb)).2.2.2.2.2.2:=(hr.ord _ (Jbg (hF a).1)).trip.1
  by_cases q:0≤(Xz O (ns.getD 0 Jb)).2.2.2.2.2.2
  ·rw[decide_eq_true q];exact bne_iff_ne.mpr (by omega)
  ·rw[decide_eq_false q];exact bne_eq_false_iff_eq.mpr (by omega)
 simp only[List.nil_append,rcb,rcS,rcO,rcX,rcQ,Prod.eta]
 repeat' first|exact lfT ‹_›|exact lfN ‹_› ‹_›|exact lfA ‹_› ‹_› (cE.trans (by have hp:=hP ‹_›;clear cE sE hF hP hx hc;simp only[Jcg,Xp,List.nil_append, *,cond_true,cond_false,reduceIte,decide_true,decide_false,Bool.not_true,Bool.not_false,Int.reduceEq,Int.reduceNe,ne_eq,not_false_eq_true,not_true_eq_false];first|done|rfl|decide)) (by first|exact .inl ⟨by decide,rfl⟩|exact .inl ⟨bne_iff_ne.mp ‹_›,rfl⟩|exact .inr ⟨rfl,sE.trans (by first|rfl|simp only[Fd,List.nil_append]|simp only[Fd,Xm (hF ‹_›).1])⟩)|apply And.intro|intro _
 all_goals first|omega|trivial|assumption|exact hP ‹_›|(have:=hF ‹_›;omega)
abbrev Jfg (tk st:Int) (S:List Sta) (O:List Ord) (M:List Met) (X:List Out) (Q:List Per) (n:Int) (ns:List ByteArray) (vs:List Int) (tx:ByteArray):Ann:={X:=Nat,σ:=fun k=>⟨30,[(2, .one (.ptr 25 0)),(3, .one (.ptr 26 0)),(4, .one (.ptr 27 0)),(6, .one (.sl 6)),(7, .one (.ptr 28 0)),(8, .one (.int .i64 (vs.getD 1 0+k)))],[(5, .imm 9 .str ns),(6, .imm 3 sI vs),(8, .box 67 [.int .i64 n, .str Ju, .sl 5, .sl 6, .str tx]),(9, .box 37 Jjo),(23, .box 37 [.int .i64 tk, .int .i64 st, .sl 14, .sl 16, .sl 18, .sl 20, .sl 22]),(24, .sus [(3, .one (.ptr 8 0)),(4, .one (.ptr 9 0)),(7, .one (.ptr 23 0))]),(25, .box 37 [.int .i64 tk, .int .i64 st, .sl 14, .sl 16, .sl 18, .sl 20, .sl 22]),(26, .box 67 [.int .i64 n, .str Ju, .sl 5, .sl 6, .str tx]),(27, .box 37 Jjo),(28, .box 117 [.int .i64 (vs.getD 1 0), .int .i64 (vs.getD 2 0)]),(14, .own 114 Xh S),(16, .own 119 Yt O),(18, .own 121 Xw M),(20, .own 123 V5 X),(22, .own 125 Ys Q)]⟩,inv:=fun k=>k≤(vs.getD 2 0-vs.getD 1 0).toNat∧Hb (Vr (n,Ju,ns,vs,tx)) (fun h=>decide (vs.getD 3 0<U9 O (ns.getD 1 Jb) h))=Jrl (fun h=>decide (vs.getD 3 0<U9 O (ns.getD 1 Jb) h)) (vs.getD 1 0+k) ((vs.getD 2 0-vs.getD 1 0).toNat-k),mu:=fun k=>(vs.getD 2 0-vs.getD 1 0).toNat-k}
def Ke2 (a:Li) (b:Int) (c:List Sta) (d:List Ord) (e:List Met) (f:List Out) (g:List Per) (h i:Int) (j:Ls) (k:Bt):=Jcv a b c d e f g=Ye (Z60 h b c d e f g) (Z19 i j a k)
def Kgv (a:Nat) (b:Li) (c:Int) (d:Ls) (e:Bt) (f:List Ord):=Kkt a b∧(Hb (Vr (Z19 c d b e)) fun(h:Int)=>decide (Ja5 b<U9 f (Jji d) h))=Jrl (fun(h:Int)=>decide (Ja5 b<U9 f (Jji d) h)) (Jsf b a) (J9g b a)
def J7s (a:Ls) (b:Li) (c:Int) (d:Bt) (e f:Int) (g:List Sta) (h:List Ord) (i:List Met) (j:List Out) (k:List Per):=Sf a (Sf b (Si c (Sf Ju (Sf d (Si 0 (Si 0 (Sf Jo (Sf Jo (Sf Jo (Sf Jo (Sf Jo (Si e (Si f (Si e (Si f (Si c (Sf Ju (Kgw d b g h i j k))))))))))))))))))
theorem Jju:wpFG Tryz.prog Jr0.g Lp (Xt (some (Jfg tk st S O M X Q n ns vs tx))) (Sx.look ([(225,Tryz.f225),(226,Tryz.f226),(227,Tryz.f227)]:List (Nat×Func))) Tryz.f132 Lo ((tk,st,S,O,M,X,Q),(n,Ju,ns,vs,tx),()):=by
 refine(by kernel_rfl:(Jw tk st S O M X Q→Ja6 X→Z50 M→Jc (Z19 n ns vs tx)=0→Lb Ju Js=false→Z96 vs∧Br (Jhf vs tk) (Sf true (Z60 tk st S O M X Q=Ye (Z60 tk st S O M X Q) (Z19 n ns vs tx)∧22=Vd (Z60 tk st S O M X Q) (Z19 n ns vs tx))) ((Jw tk st S O M X Q∧Sf true (Jp6 ns))∧Br (Jr (Z60 tk st S O M X Q) Ju ns !=0) (Sf true (Z60 tk st S O M X Q=Ye (Z60 tk st S O M X Q) (Z19 n ns vs tx)∧Jr (Z60 tk st S O M X Q) Ju ns=Vd (Z60 tk st S O M X Q) (Z19 n ns vs tx))) (Jhe S∧Jha O∧Jhd M∧Jhb X∧Jhc Q∧J9n vs∧Khf vs∧Br (Kjo vs) (Z96 vs∧Sf true (Ke2 vs st S O M X Q tk n ns tx∧14=Vd (Z60 tk st S O M X Q) (Z19 n ns vs tx))) (T2 (Z24 vs) (T2 (Z90 ns) (Z46 S∧Tw (Bd (Jxy S ns) (Ln ([]++S)))))∧Br (decide ((Gt ([]++S) (Jxy S ns) Z12).2.1≤Ja5 vs)) (Z96 vs∧Sf true (Ke2 vs st S O M X Q tk n ns tx∧3=Vd (Z60 tk st S O M X Q) (Z19 n ns vs tx))) (∃(x:Nat),(Kkx vs x∧J7s ns vs n tx tk st S O M X Q)∧Kgv x vs n ns tx O∧∀(x:Nat),Kgv x vs n ns tx O→Br (Kkk vs x) (T2 (Z90 ns) (Jw tk st S O M X Q∧Z97 vs)∧Br (decide (Ja5 vs<U9 O (Z86 ns) (Jsf vs x))) (Z96 vs∧Sf true (Ke2 vs st S O M X Q tk n ns tx∧24=Vd (Z60 tk st S O M X Q) (Z19 n ns vs tx))) (Iw (Kfx vs x)∧∃(y:Nat),(Kjq vs x y∧J7s ns vs n tx tk st S O M X Q)∧Kgv y vs n ns tx O∧Khz vs y x)) (Br (decide (16≤Ln X)) (Z96 vs∧Sf true (Ke2 vs st S O M X Q tk n ns tx∧5=Vd (Z60 tk st S O M X Q) (Z19 n ns vs tx))) (T2 (Z95 ns) (T2 (Z90 ns) (Kko vs X))∧Z96 vs∧Sf true ((Z85 vs,st,S,O,M,X++[(U0 ns,Z86 ns,J9k vs,Ja5 vs)],Q)=Ye (Z60 tk st S O M X Q) (Z19 n ns vs tx)∧0=Vd (Z60 tk st S O M X Q) (Z19 n ns vs tx)))))))))=_).mp ?_
 delta Z12 Z19 Z23 Z24 Z27 Z30 Z46 Z50 Z60 Z81 Z85 Z86 Z89 Z90 Z95 Z96 Z97 Ja5 U0 Jp6 Jji Jw Jo Jxy Jsf Jhf Jhe Jhd Jhc Jhb Jha Kfx Jcv J9n J9k Kk0 Kkx J9g Kkt Kko Kkk Kjq Kjo Ke2 Khz Khf Kgw Kgv J7s Br Iw Bd T2 Tw Sf Si Ln Nc Gt B0 Lb Ju Js
 intro hr hu hm hc _
 obtain⟨hn,hv,nS,nO,nX,nQ,hx⟩:=Jxh hr hc
 simp only[Kq,List.length_cons,List.length_nil] at hn hv nS nO nX nQ hx
 have cE:ckS (tk,st,S,O,M,X,Q) (n,Ju,ns,vs,tx)=Jbu S O X (n,Ju,ns,vs,tx):=by simp only[ckS,Kq]
 have sE:Jn (tk,st,S,O,M,X,Q) (n,Ju,ns,vs,tx)=(vs.getD 0 0,(Fg (tk,st,S,O,M,X,Q) (n,Ju,ns,vs,tx)).2):=by simp only[Jn,doS,Kq]
 have hF:(Jr (tk,st,S,O,M,X,Q) Ju ns !=0)=false→(0≤J0 S (ns.getD 1 Jb)∧J0 S (ns.getD 1 Jb)<S.length):=fun a=>by
  have z:=fcN a
  rw[Kq] at z
  obtain⟨k0,z⟩:=Jl z
  obtain⟨k1,z⟩:=Jl z
  exact⟨Jrd (k1 rfl),K1⟩
 have v1:=hx 1 (by omega)
 have v2:=hx 2 (by omega)
 have v3:=hx 3 (by omega)
 have pE:Zf (n,Ju,ns,vs,tx)=bif Kct (vs.getD 0 0) (vs.getD 1 0) (vs.getD 2 0) then 14 else 0:=rfl
 simp only[List.nil_append,rcb,rcS,rcO,rcX,rcQ,Prod.eta]
 repeat' first|exact lfT ‹_›|exact lfN ‹_› ‹_›|exact lfA ‹_› ‹_› (cE.trans (by clear cE sE hF hx hc;simp only[Jbu,Jg4,Je,Xp,List.nil_append, *,cond_true,cond_false,reduceIte,decide_true,decide_false,Bool.not_true,Bool.not_false,Int.reduceEq,Int.reduceNe,ne_eq,not_false_eq_true,not_true_eq_false];first|done|rfl|decide)) (by first|exact .inl ⟨by decide,rfl⟩|exact .inl ⟨bne_iff_ne.mp ‹_›,rfl⟩|exact .inr ⟨rfl,sE.trans (by first|rfl|(simp only[Fg,List.nil_append];done)|simp only[Fg,Xm (hF ‹_›).1])⟩)|(refine⟨(0:Nat),by(repeat' first|exact rfl|exact⟨⟩|apply And.intro|omega|dsimp only;omega),⟨Nat.zero_le _,by simp[Hb,Vr,Jut]⟩,fun(k:Nat) hk=>⟨fun h1=> ?_,fun h1=> ?_⟩⟩;obtain⟨k1,k2⟩:=hk;replace h1:=of_decide_eq_true h1;rw[Jpn (by omega)] at k2;skip;rotate_left;obtain⟨k1,k2⟩:=hk;replace h1:=of_decide_eq_false h1;rw[Jpo (by omega)] at k2)|(refine⟨(k+1:Nat),by(repeat' first|exact rfl|exact⟨⟩|apply And.intro|omega|dsimp only;omega),⟨by omega, ?_⟩,by omega⟩;rw[k2,show decide (vs.getD 3 0<U9 O (ns.getD 1 Jb) (vs.getD 1 0+k))=false from ‹_›];rfl)|apply And.intro|intro _
 all_goals first|omega|trivial|assumption|(have:=hF ‹_›;omega)
def Ky8 (a:List Out) (b:Ls):=Gt ([]++a) (Jsg a b) Jcw
def Ky2 (a:List Out) (b:Ls) (c:Li):=T2 (Bd (Jsg a b) (Ln ([]++a))) (Z96 c)
def Ky0 (a:List Out) (b:Ls):=(Ky8 a b).2
def Kyu (a:List Out) (b:Ls):=(Ky0 a b).2
def Kyp (a:List Out) (b:Ls):=(Kyu a b).1
def Kyh (a:List Out) (b:Ls):=(Kyp a b).1
theorem Jhl:wpFG Tryz.prog Jr0.g Lp (Xt (none)) (Sx.look ([(225,Tryz.f225),(226,Tryz.f226),(227,Tryz.f227)]:List (Nat×Func))) Tryz.f132 Lo ((tk,st,S,O,M,X,Q),(n,Jq,ns,vs,tx),()):=by
 refine(by kernel_rfl:(Jw tk st S O M X Q→Ja6 X→Z50 M→Jc (Z21 n ns vs tx)=0→Lb Jq Js=false→Z96 vs∧Br (Jhf vs tk) (Sf true (Z60 tk st S O M X Q=Ye (Z60 tk st S O M X Q) (Z21 n ns vs tx)∧22=Vd (Z60 tk st S O M X Q) (Z21 n ns vs tx))) (Jsc tk st S O M X Q ns∧Br (Jr (Z60 tk st S O M X Q) Jq ns !=0) (Sf true (Z60 tk st S O M X Q=Ye (Z60 tk st S O M X Q) (Z21 n ns vs tx)∧Jr (Z60 tk st S O M X Q) Jq ns=Vd (Z60 tk st S O M X Q) (Z21 n ns vs tx))) (Jhe S∧Jha O∧Jhd M∧Jhb X∧Jhc Q∧T2 (Z95 ns) (Z43 X)∧Ky2 X ns vs∧Br (decide (Z85 vs≤Kyh X ns)) (Z96 vs∧Sf true (Jcv vs st S O M X Q=Ye (Z60 tk st S O M X Q) (Z21 n ns vs tx)∧21=Vd (Z60 tk st S O M X Q) (Z21 n ns vs tx))) (Ky2 X ns vs∧Br (decide ((Kyp X ns).2≤Z85 vs)) (Z96 vs∧Sf true (Jcv vs st S O M X Q=Ye (Z60 tk st S O M X Q) (Z21 n ns vs tx)∧23=Vd (Z60 tk st S O M X Q) (Z21 n ns vs tx))) (T2 (Z95 ns) (Z44 Q)∧Br (V8 Q (U0 ns)) (Z96 vs∧Sf true (Jcv vs st S O M X Q=Ye (Z60 tk st S O M X Q) (Z21 n ns vs tx)∧32=Vd (Z60 tk st S O M X Q) (Z21 n ns vs tx))) (T2 (Z27 vs) (Tw (Bd (Jsg X ns) (Ln ([]++X))))∧Z96 vs∧Sf true ((Z85 vs,st,S,O,M,List.set ([]++X) (Int.toNat (Jsg X ns)) ((Ky8 X ns).1,(Ky0 X ns).1,(Kyh X ns,Z85 vs),(Kyu X ns).2),Q)=Ye (Z60 tk st S O M X Q) (Z21 n ns vs tx)∧0=Vd (Z60 tk st S O M X Q) (Z21 n ns vs tx))))))))=_).mp ?_
 delta Z21 Z27 Z43 Z44 Z50 Z60 Z85 Z95 Z96 U0 Jw Jcw Jsg Jhf Jhe Jhd Jhc Jhb Jha Jcv Jsc Ky8 Ky2 Ky0 Kyu Kyp Kyh Br Bd T2 Tw Sf Ln Gt B0 Lb Jq Js
 intro hr hu hm hc _
 obtain⟨hn,hv,nS,nO,nX,nQ,hx⟩:=Jxh hr hc
 simp only[Ke,List.length_cons,List.length_nil] at hn hv nS nO nX nQ hx
 have cE:ckS (tk,st,S,O,M,X,Q) (n,Jq,ns,vs,tx)=Jch X Q ns vs:=by simp only[ckS,Ke]
 have sE:Jn (tk,st,S,O,M,X,Q) (n,Jq,ns,vs,tx)=(vs.getD 0 0,(Ff (tk,st,S,O,M,X,Q) (n,Jq,ns,vs,tx)).2):=by simp only[Jn,doS,Ke]
 have hF:(Jr (tk,st,S,O,M,X,Q) Jq ns !=0)=false→(0≤J5 X (ns.getD 0 Jb)∧J5 X (ns.getD 0 Jb)<X.length):=fun a=>by
  have z:=fcN a
  rw[Ke] at z
  obtain⟨k0,z⟩:=Jl z
  exact⟨J1y (k0 rfl),Uq⟩
 have hP:(Jr (tk,st,S,O,M,X,Q) Jq ns !=0)=false→decide ((0:Int)<((Lv Q).filter fun p=>p.2.1.toList==(Lu X (ns.getD 0 Jb)).1.toList).length)=V8 Q (ns.getD 0 Jb):=fun a=>by rw[Jkn (hF a).1];rfl
 simp only[List.nil_append,rcb,rcS,rcO,rcX,rcQ,Prod.eta]
 repeat' first|exact lfT ‹_›|exact lfN ‹_› ‹_›|exact lfA ‹_› ‹_› (cE.trans (by have hp:=hP ‹_›;clear cE sE hF hP hx hc;simp only[Jch,Je,Xp,List.nil_append, *,cond_true,cond_false,reduceIte,decide_true,decide_false,Bool.not_true,Bool.not_false,Int.reduceEq,Int.reduceNe,ne_eq,not_false_eq_true,not_true_eq_false];first|done|rfl|decide)) (by first|exact .inl ⟨by decide,rfl⟩|exact .inl ⟨bne_iff_ne.mp ‹_›,rfl⟩|exact .inr ⟨rfl,sE.trans (by first|rfl|simp only[Ff,List.nil_append]|simp only[Ff,Xm (hF ‹_›).1])⟩)|apply And.intro|intro _
 all_goals first|omega|trivial|assumption|exact hP ‹_›|(have:=hF ‹_›;omega)
theorem Jjt:wpFG Tryz.prog Jr0.g Lp (Xt (none)) (Sx.look ([(225,Tryz.f225),(226,Tryz.f226),(227,Tryz.f227)]:List (Nat×Func))) Tryz.f132 Lo ((tk,st,S,O,M,X,Q),(n,Kd,ns,vs,tx),()):=by
 refine(by kernel_rfl:(Jw tk st S O M X Q→Ja6 X→Z50 M→Jc (Z16 n ns vs tx)=0→Lb Kd Js=false→Z96 vs∧Br (Jhf vs tk) (Sf true (Z60 tk st S O M X Q=Ye (Z60 tk st S O M X Q) (Z16 n ns vs tx)∧22=Vd (Z60 tk st S O M X Q) (Z16 n ns vs tx))) ((Jw tk st S O M X Q∧Sf true (Jp6 ns))∧Br (Jr (Z60 tk st S O M X Q) Kd ns !=0) (Sf true (Z60 tk st S O M X Q=Ye (Z60 tk st S O M X Q) (Z16 n ns vs tx)∧Jr (Z60 tk st S O M X Q) Kd ns=Vd (Z60 tk st S O M X Q) (Z16 n ns vs tx))) (Jhe S∧Jha O∧Jhd M∧Jhb X∧Jhc Q∧T2 (Z90 ns) (Z43 X∧T2 (Bd (J5 X (Z86 ns)) (Ln ([]++X))) (Z96 vs))∧Br (!Kn (E2 (Gt ([]++X) (J5 X (Z86 ns)) Jcw).2.2.1) (Z85 vs)) (Z96 vs∧Sf true (Jcv vs st S O M X Q=Ye (Z60 tk st S O M X Q) (Z16 n ns vs tx)∧22=Vd (Z60 tk st S O M X Q) (Z16 n ns vs tx))) (Br (decide (16≤Ln ([]++Q))) (Z96 vs∧Sf true (Jcv vs st S O M X Q=Ye (Z60 tk st S O M X Q) (Z16 n ns vs tx)∧5=Vd (Z60 tk st S O M X Q) (Z16 n ns vs tx))) (Kiy ns Q∧Z96 vs∧Sf true ((Z85 vs,st,S,O,M,Kj3 X Q ns)=Ye (Z60 tk st S O M X Q) (Z16 n ns vs tx)∧0=Vd (Z60 tk st S O M X Q) (Z16 n ns vs tx)))))))=_).mp ?_
 delta Z16 Z27 Z43 Z50 Z60 Z85 Z86 Z90 Z95 Z96 U0 Jp6 Jw Jcw Jhf Jhe Jhd Jhc Jhb Jha Jcv Kj3 Kiy Br Bd T2 Tw Sf Ln Gt B0 Lb E2 Kd Js
 intro hr hu hm hc _
 obtain⟨hn,hv,nS,nO,nX,nQ,hx⟩:=Jxh hr hc
 simp only[Kt,List.length_cons,List.length_nil] at hn hv nS nO nX nQ hx
 have cE:ckS (tk,st,S,O,M,X,Q) (n,Kd,ns,vs,tx)=Jci X Q ns vs:=by simp only[ckS,Kt]
 have sE:Jn (tk,st,S,O,M,X,Q) (n,Kd,ns,vs,tx)=(vs.getD 0 0,(Fh (tk,st,S,O,M,X,Q) (n,Kd,ns,vs,tx)).2):=by simp only[Jn,doS,Kt]
 have hF:(Jr (tk,st,S,O,M,X,Q) Kd ns !=0)=false→(0≤J5 X (ns.getD 1 Jb)∧J5 X (ns.getD 1 Jb)<X.length):=fun a=>by
  have z:=fcN a
  rw[Kt] at z
  obtain⟨k0,z⟩:=Jl z
  obtain⟨k1,z⟩:=Jl z
  exact⟨J1y (k1 rfl),Uq⟩
 simp only[List.nil_append,rcb,rcS,rcO,rcX,rcQ,Prod.eta]
 repeat' first|exact lfT ‹_›|exact lfN ‹_› ‹_›|exact lfA ‹_› ‹_› (cE.trans (by clear cE sE hF hx hc;simp only[Jci,Je,Xp,List.nil_append, *,cond_true,cond_false,reduceIte,decide_true,decide_false,Bool.not_true,Bool.not_false,Int.reduceEq,Int.reduceNe,ne_eq,not_false_eq_true,not_true_eq_false];first|done|rfl|decide)) (by first|exact .inl ⟨by decide,rfl⟩|exact .inl ⟨bne_iff_ne.mp ‹_›,rfl⟩|exact .inr ⟨rfl,sE.trans (by first|rfl|simp only[Fh,List.nil_append]|simp only[Fh,Xm (hF ‹_›).1])⟩)|apply And.intro|intro _
 all_goals first|omega|trivial|assumption|(have:=hF ‹_›;omega)
def K0q (a:List Per) (b:Ls):=Tw (Bd (Jrr a b) (Ln ([]++a)))
def K0h (a:List Per) (b:Ls):=Gt ([]++a) (Jrr a b) (B0,B0,false)
def K0g (a:List Per) (b:Ls):=(K0h a b).2
theorem Jjs:wpFG Tryz.prog Jr0.g Lp (Xt (none)) (Sx.look ([(225,Tryz.f225),(226,Tryz.f226),(227,Tryz.f227)]:List (Nat×Func))) Tryz.f132 Lo ((tk,st,S,O,M,X,Q),(n,Kc,ns,vs,tx),()):=by
 refine(by kernel_rfl:(Jw tk st S O M X Q→Ja6 X→Z50 M→Jc (Z18 n ns vs tx)=0→Lb Kc Js=false→Z96 vs∧Br (Jhf vs tk) (Sf true (Z60 tk st S O M X Q=Ye (Z60 tk st S O M X Q) (Z18 n ns vs tx)∧22=Vd (Z60 tk st S O M X Q) (Z18 n ns vs tx))) (Jsc tk st S O M X Q ns∧Br (Jr (Z60 tk st S O M X Q) Kc ns !=0) (Sf true (Z60 tk st S O M X Q=Ye (Z60 tk st S O M X Q) (Z18 n ns vs tx)∧Jr (Z60 tk st S O M X Q) Kc ns=Vd (Z60 tk st S O M X Q) (Z18 n ns vs tx))) (Jhe S∧Jha O∧Jhd M∧Jhb X∧Jhc Q∧T2 (Z95 ns) (Z44 Q)∧K0q Q ns∧Br (!(K0g Q ns).2) (Z96 vs∧Sf true (Jcv vs st S O M X Q=Ye (Z60 tk st S O M X Q) (Z18 n ns vs tx)∧23=Vd (Z60 tk st S O M X Q) (Z18 n ns vs tx))) (K0q Q ns∧Z96 vs∧Sf true ((Z85 vs,st,S,O,M,X,List.set ([]++Q) (Int.toNat (Jrr Q ns)) ((K0h Q ns).1,(K0g Q ns).1,false))=Ye (Z60 tk st S O M X Q) (Z18 n ns vs tx)∧0=Vd (Z60 tk st S O M X Q) (Z18 n ns vs tx))))))=_).mp ?_
 delta Z18 Z27 Z44 Z50 Z60 Z85 Z95 Z96 U0 Jw Jrr Jhf Jhe Jhd Jhc Jhb Jha Jcv K0q K0h K0g Jsc Br Bd T2 Tw Sf Ln Gt B0 Lb Kc Js
 intro hr hu hm hc _
 obtain⟨hn,hv,nS,nO,nX,nQ,hx⟩:=Jxh hr hc
 simp only[Ks,List.length_cons,List.length_nil] at hn hv nS nO nX nQ hx
 have cE:ckS (tk,st,S,O,M,X,Q) (n,Kc,ns,vs,tx)=Jnj Q ns:=by simp only[ckS,Ks]
 have sE:Jn (tk,st,S,O,M,X,Q) (n,Kc,ns,vs,tx)=(vs.getD 0 0,(Jf6 (tk,st,S,O,M,X,Q) (n,Kc,ns,vs,tx)).2):=by simp only[Jn,doS,Ks]
 have hF:(Jr (tk,st,S,O,M,X,Q) Kc ns !=0)=false→(0≤Uz Q (ns.getD 0 Jb)∧Uz Q (ns.getD 0 Jb)<Q.length):=fun a=>by
  have z:=fcN a
  rw[Ks] at z
  obtain⟨k0,z⟩:=Jl z
  exact⟨Kgp (k0 rfl),Uw⟩
 simp only[List.nil_append,rcb,rcS,rcO,rcX,rcQ,Prod.eta]
 repeat' first|exact lfT ‹_›|exact lfN ‹_› ‹_›|exact lfA ‹_› ‹_› (cE.trans (by clear cE sE hF hx hc;simp only[Jnj,Xp,List.nil_append, *,cond_true,cond_false,reduceIte,decide_true,decide_false,Bool.not_true,Bool.not_false,Int.reduceEq,Int.reduceNe,ne_eq,not_false_eq_true,not_true_eq_false];first|done|rfl|decide)) (by first|exact .inl ⟨by decide,rfl⟩|exact .inl ⟨bne_iff_ne.mp ‹_›,rfl⟩|exact .inr ⟨rfl,sE.trans (by first|rfl|simp only[Jf6,List.nil_append]|simp only[Jf6,Xm (hF ‹_›).1])⟩)|apply And.intro|intro _
 all_goals first|omega|trivial|assumption|(have:=hF ‹_›;omega)
abbrev Jff (tk st:Int) (S:List Sta) (O:List Ord) (M:List Met) (X:List Out) (Q:List Per) (n:Int) (ns:List ByteArray) (vs:List Int) (tx:ByteArray):Ann:={X:=Nat,σ:=fun k=>⟨30,[(2, .one (.ptr 25 0)),(3, .one (.ptr 26 0)),(4, .one (.ptr 27 0)),(6, .one (.sl 6)),(11, .one (.int .i64 k))],[(5, .imm 9 .str ns),(6, .imm 3 sI vs),(8, .box 67 [.int .i64 n, .str Jg, .sl 5, .sl 6, .str tx]),(9, .box 37 Jjo),(23, .box 37 [.int .i64 tk, .int .i64 st, .sl 14, .sl 16, .sl 18, .sl 20, .sl 22]),(24, .sus [(3, .one (.ptr 8 0)),(4, .one (.ptr 9 0)),(7, .one (.ptr 23 0))]),(25, .box 37 [.int .i64 tk, .int .i64 st, .sl 14, .sl 16, .sl 18, .sl 20, .sl 22]),(26, .box 67 [.int .i64 n, .str Jg, .sl 5, .sl 6, .str tx]),(27, .box 37 Jjo),(14, .imm 114 Xh S),(16, .imm 119 Yt O),(18, .imm 121 Xw M),(20, .imm 123 V5 X),(22, .imm 125 Ys Q)]⟩,inv:=fun k=>k≤X.length∧(X.any fun x=>decide (x.2.2.1.2≤vs.getD 1 0)&&V8 Q x.1)=((X.drop k).any fun x=>decide (x.2.2.1.2≤vs.getD 1 0)&&V8 Q x.1),mu:=fun k=>X.length-k}
def Kft (a:List Out) (b:Nat):=(Jwr a b).2
def Kzf (a:List Out) (b:Nat) (c:Li):=decide (Kft a b≤Z89 c)
def Kyl (a:List Out) (b:Nat) (c:Li):=Kzf a b c=true
def Kha (a:Nat) (b:List Out) (c:Li) (d:List Per):=a≤List.length b∧(List.any b fun(x:Out)=>decide (x.2.2.1.2≤Z89 c)&&V8 d x.1)=List.any (List.drop a b) fun(x:Out)=>decide (x.2.2.1.2≤Z89 c)&&V8 d x.1
def Kud (a:Li) (b:Int) (c:List Sta) (d:List Ord) (e:List Met) (f:List Out) (g:List Per) (h i:Int) (j:Ls) (k:Bt):=Z96 a∧Sf true (Jcv a b c d e f g=Ye (Z60 h b c d e f g) (Z20 i j a k)∧32=Vd (Z60 h b c d e f g) (Z20 i j a k))
def Kr9 (a:Ls) (b:Li) (c:Int) (d:Bt) (e f:Int) (g:List Sta) (h:List Ord) (i:List Met) (j:List Out) (k:List Per):=Sf a (Sf b (Si c (Sf Jg (Sf d (Si 0 (Si 0 (Sf Jo (Sf Jo (Sf Jo (Sf Jo (Sf Jo (Si e (Si f (Si e (Si f (Si c (Sf Jg (Sf d (Si 0 (Si 0 (Sf Jo (Sf Jo (Sf Jo (Sf Jo (Sf Jo (Sf g (Sf h (Sf i (Sf j (k=k))))))))))))))))))))))))))))))
theorem Jjr:wpFG Tryz.prog Jr0.g Lp (Xt (some (Jff tk st S O M X Q n ns vs tx))) (Sx.look ([(225,Tryz.f225),(226,Tryz.f226),(227,Tryz.f227)]:List (Nat×Func))) Tryz.f132 Lo ((tk,st,S,O,M,X,Q),(n,Jg,ns,vs,tx),()):=by
 refine(by kernel_rfl:(Jw tk st S O M X Q→Ja6 X→Z50 M→Jc (Z20 n ns vs tx)=0→Lb Jg Js=false→Z96 vs∧Br (Jhf vs tk) (Sf true (Z60 tk st S O M X Q=Ye (Z60 tk st S O M X Q) (Z20 n ns vs tx)∧22=Vd (Z60 tk st S O M X Q) (Z20 n ns vs tx))) ((Jw tk st S O M X Q∧Sf true (List.length ns=0))∧Br (Jr (Z60 tk st S O M X Q) Jg ns !=0) (Sf true (Z60 tk st S O M X Q=Ye (Z60 tk st S O M X Q) (Z20 n ns vs tx)∧Jr (Z60 tk st S O M X Q) Jg ns=Vd (Z60 tk st S O M X Q) (Z20 n ns vs tx))) (Jhe S∧Jha O∧Jhd M∧Jhb X∧Jhc Q∧T2 (Z30 vs) (T2 (Kf0 vs st=false→Z30 vs) (Kj7 vs st))∧Br (Kim vs st) (Z96 vs∧Sf true (Jcv vs st S O M X Q=Ye (Z60 tk st S O M X Q) (Z20 n ns vs tx)∧14=Vd (Z60 tk st S O M X Q) (Z20 n ns vs tx))) (T2 (Z30 vs) (Jw tk st S O M X Q)∧Br (decide (0<Ln (Km M (Z89 vs) O))) (Kud vs st S O M X Q tk n ns tx) (∃(x:Nat),(0=Nc x∧Kr9 ns vs n tx tk st S O M X Q)∧Kha x X vs Q∧∀(x:Nat),Kha x X vs Q→Br (Z92 x X) (T2 (Bd (Nc x) (Ln X)) (T2 (Z30 vs) (T2 (Kyl X x vs→Bd (Nc x) (Ln X)) (Kyl X x vs→Z44 Q)))∧Br (bif Kzf X x vs then V8 Q (Jro X x) else false) (Kud vs st S O M X Q tk n ns tx) (Z14 x∧∃(y:Nat),(Z91 x y∧Kr9 ns vs n tx tk st S O M X Q)∧Kha y X vs Q∧Jse X y x)) (Z84 vs∧Z96 vs∧Sf true ((Z85 vs,Z89 vs,S,O,M,X,Q)=Ye (Z60 tk st S O M X Q) (Z20 n ns vs tx)∧0=Vd (Z60 tk st S O M X Q) (Z20 n ns vs tx))))))))=_).mp ?_
 delta Z14 Z20 Z27 Z30 Z44 Z50 Z60 Z84 Z85 Z89 Z91 Z92 Z96 Jw Jo Jcw Jhf Kf0 Jse Jhe Jhd Jhc Jhb Jha Jcv Jxt Jro Jwr Kft Kj7 Kzf Kyl Kim Kha Kud Kr9 Br Iw Bd T2 Tw Sf Si Ln Nc B0 Lb Jg Js
 intro hr hu hm hc _
 obtain⟨hn,hv,nS,nO,nX,nQ,hx⟩:=Jxh hr hc
 simp only[Um,List.length_cons,List.length_nil] at hn hv nS nO nX nQ hx
 have cE:ckS (tk,st,S,O,M,X,Q) (n,Jg,ns,vs,tx)=Lm st O M X Q vs:=by simp only[ckS,Um]
 have sE:Jn (tk,st,S,O,M,X,Q) (n,Jg,ns,vs,tx)=(vs.getD 0 0,(Jap (tk,st,S,O,M,X,Q) (n,Jg,ns,vs,tx)).2):=by simp only[Jn,doS,Um]
 have lE:=J32 (Q:=Q) (u:=vs.getD 1 0) hu hr.per
 have v1:=hx 1 (by omega)
 simp only[List.nil_append,rcb,rcS,rcO,rcX,rcQ,Prod.eta]
 repeat' first|exact lfT ‹_›|exact lfN ‹_› ‹_›|exact lfA ‹_› ‹_› (cE.trans (by clear cE sE hx hc;simp only[Lm,Bool.true_or,Bool.false_or,Xp,List.nil_append, *,cond_true,cond_false,reduceIte,decide_true,decide_false,Bool.not_true,Bool.not_false,Int.reduceEq,Int.reduceNe,ne_eq,not_false_eq_true,not_true_eq_false];first|done|rfl|decide)) (by first|exact .inl ⟨by decide,rfl⟩|exact .inl ⟨bne_iff_ne.mp ‹_›,rfl⟩|exact .inr ⟨rfl,sE.trans (by first|rfl|simp only[Jap,List.nil_append])⟩)|(refine⟨(0:Nat),by(repeat' first|exact rfl|exact⟨⟩|apply And.intro|omega|dsimp only;omega),⟨Nat.zero_le _,rfl⟩,fun(k:Nat) hk=>⟨fun h1=> ?_,fun h1=> ?_⟩⟩;obtain⟨k1,k2⟩:=hk;replace h1:=of_decide_eq_true h1;rw[Jp (d:=(Jb,Jb,(0,0),0)) (by omega),List.any_cons] at k2;rw[K6b] at k2;rotate_left;obtain⟨k1,k2⟩:=hk;replace h1:=of_decide_eq_false h1;rw[List.drop_eq_nil_of_le (by omega),List.any_nil] at k2)|(refine⟨(k+1:Nat),by(repeat' first|exact rfl|exact⟨⟩|apply And.intro|omega|dsimp only;omega),⟨by omega, ?_⟩,by omega⟩;rw[k2,show(bif decide ((X.getD k (Jb,Jb,(0,0),0)).2.2.1.2≤vs.getD 1 0) then V8 Q (X.getD k (Jb,Jb,(0,0),0)).1 else false)=false from ‹_›];rfl)|apply And.intro|intro _
 all_goals first|omega|trivial|assumption
def Jr3 (k:ByteArray):Nat:=if k=Ju then 1 else if k=Kk then 2 else if k=Jg then 3 else 0
def Jv9 (tk st:Int) (S:List Sta) (O:List Ord) (M:List Met) (X:List Out) (Q:List Per) (n:Int) (ns:List ByteArray) (vs:List Int) (tx:ByteArray):Nat→Option Ann
 |1=>some (Jfg tk st S O M X Q n ns vs tx)
 |2=>some (Jg8 tk st S O M X Q n ns vs tx)
 |3=>some (Jff tk st S O M X Q n ns vs tx)
 |_=>none
def Jwa:ATup [Xo,aEv]→Option Ann
 |((tk,st,S,O,M,X,Q),(n,k,ns,vs,tx),())=>Jv9 tk st S O M X Q n ns vs tx (Jr3 k)
theorem Jx9 {Γ:Gam} {ann:Nat→Option Ann} {annF:FuncId→Nat→Option Ann} {lib:FuncId→Option Func} {fn:Func} {c:Con} {x:ATup c.args} (hb:fn.body.isSome=true) (h:Uj (c.pre x)→wpFG Tryz.prog Γ ann annF lib fn c x):wpFG Tryz.prog Γ ann annF lib fn c x:=by
 unfold wpFG at h⊢
 cases hc:fn.body with
 |none=>rw[hc] at hb;cases hb
 |some code=>
  rw[hc] at h
  exact Jaj h
theorem D5 {tk st:Int} {S:List Sta} {O:List Ord} {M:List Met} {X:List Out} {Q:List Per} {n:Int} {k:ByteArray} {ns:List ByteArray} {vs:List Int} {tx:ByteArray} {i:Nat} (h:Jr3 k=i):Jwa ((tk,st,S,O,M,X,Q),(n,k,ns,vs,tx),())=Jv9 tk st S O M X Q n ns vs tx i:=by rw[←h];rfl
theorem Kmf:∀x:ATup [Xo,aEv],wpFG Tryz.prog Jr0.g Lp (Xt (Jwa x)) (Sx.look ([(225,Tryz.f225),(226,Tryz.f226),(227,Tryz.f227)]:List (Nat×Func))) Tryz.f132 Lo x
 | ((tk, st, S, O, M, X, Q), (n, k, ns, vs, tx), ()) => by
  refine Jx9 (by kernel_rfl) fun hp=> ?_
  have hc:Jc (n,k,ns,vs,tx)=0:=hp.2.2.2.1
  rcases U3 (K9 hc).kind with h|h|h|h|h|h|h|h|h|h|h<;>dsimp only at h<;>subst h
  ·have h4:(Js.toList==Js.toList)=false:=hp.2.2.2.2
   rw[show(Js.toList==Js.toList)=true from by kernel_rfl] at h4
   cases h4
  ·rw[D5 (show Jr3 Jt=0 from by kernel_rfl)];exact Jhk tk st S O M X Q n ns vs tx
  ·rw[D5 (show Jr3 Ua=0 from by kernel_rfl)];exact Jl6 tk st S O M X Q n ns vs tx
  ·rw[D5 (show Jr3 Kk=2 from by kernel_rfl)];exact Jl7 tk st S O M X Q n ns vs tx
  ·rw[D5 (show Jr3 K2=0 from by kernel_rfl)];exact Jl8 tk st S O M X Q n ns vs tx
  ·rw[D5 (show Jr3 Vl=0 from by kernel_rfl)];exact Jqd tk st S O M X Q n ns vs tx
  ·rw[D5 (show Jr3 Ju=1 from by kernel_rfl)];exact Jju tk st S O M X Q n ns vs tx
  ·rw[D5 (show Jr3 Jq=0 from by kernel_rfl)];exact Jhl tk st S O M X Q n ns vs tx
  ·rw[D5 (show Jr3 Kd=0 from by kernel_rfl)];exact Jjt tk st S O M X Q n ns vs tx
  ·rw[D5 (show Jr3 Kc=0 from by kernel_rfl)];exact Jjs tk st S O M X Q n ns vs tx
  ·rw[D5 (show Jr3 Jg=3 from by kernel_rfl)];exact Jjr tk st S O M X Q n ns vs tx
theorem Kpi:Ok Tryz.prog 132 Lo:=Jea mixed Jr0.ok (by kernel_rfl) (by kernel_rfl) (Us (l:=([(225,Tryz.f225),(226,Tryz.f226),(227,Tryz.f227)]:List (Nat×Func))) (List.forall_mem_cons.2 ⟨by kernel_rfl,List.forall_mem_cons.2 ⟨by kernel_rfl,List.forall_mem_cons.2 ⟨by kernel_rfl,by simp⟩⟩⟩)) (fun _=>Lp) (fun xx=>Xt (Jwa xx)) fun xx=>Kmf xx
abbrev K13:=Jr0.add Kpi
theorem Jwj {h:J2} {e:Ev} (h1:e.1=(h.1.length:Int)+1) (h2:(e.2.1.toList==Js.toList)=false):Lh h e=Vd (J4 h.2.2) e:=by
 unfold Lh Vd Jr
 rw[bne_eq_false_iff_eq.2 h1,h2]
 dsimp only[cond_false]
 cases h3:decide (e.2.2.2.1.getD 0 0<(J4 h.2.2).1) with
 |true=>rw[if_pos rfl];rfl
 | false =>
  rw[if_neg (by simp)]
  cases h4:Kh (J4 h.2.2) e.2.2.1 (Ji e.2.1).1 0 with
  |true=>rw[if_pos (by simp)];rfl
  |false=>
   cases h5:Kr (J4 h.2.2) e.2.2.1 (Ji e.2.1).1 0 with
   |true=>rw[if_pos (by simp)];rfl
   |false=>rw[if_neg (by simp)];rfl
theorem Jjh {r:Reg} {e:Ev} (h:Vd r e=0):Ye r e=Jn r e:=by
 unfold Vd at h
 unfold Ye
 by_cases a:decide (e.2.2.2.1.getD 0 0<r.1)=true
 ·rw[if_pos a] at h;exact absurd h (by decide)
 rw[if_neg a] at h⊢
 by_cases b:Jr r e.2.1 e.2.2.1≠0
 ·rw[if_pos b] at h;exact absurd h b
 rw[if_neg b] at h⊢
 rw[if_neg (by rw[h];simp)]
def Jlt (h:J2):Prop:=∀r∈h.2.2,Ja6 r.2.2.2.2.2.1
theorem Jmy {h:J2} (hu:Jlt h):Ja6 (J4 h.2.2).2.2.2.2.2.1:=by
 unfold J4
 by_cases h0:0<h.2.2.length
 ·exact hu _ (Jd (by omega))
 ·have:h.2.2=[]:=List.eq_nil_of_length_eq_zero (by omega)
  rw[this];exact List.nodup_nil
theorem Jyc {r:Reg} {e:Ev} (hu:Ja6 r.2.2.2.2.2.1) (hk:Yu e.2.1=true) (h1:Kh r e.2.2.1 (Ji e.2.1).1 0=false) (h2:Kr r e.2.2.1 (Ji e.2.1).1 0=false):Ja6 (Jn r e).2.2.2.2.2.1:=by
 obtain⟨tk,st,S,O,M,X,Q⟩:=r
 obtain⟨n,k,ns,vs,tx⟩:=e
 have hu:Ja6 X:=hu
 dsimp only at hk h1 h2
 rcases U3 hk with h|h|h|h|h|h|h|h|h|h|h<;>subst h
 ·simp only[Jn,doS,Jbl];exact hu
 ·simp only[Jn,doS,Ky];exact hu
 ·simp only[Jn,doS,U6];exact hu
 ·simp only[Jn,doS,Uo];exact hu
 ·simp only[Jn,doS,Up];exact hu
 ·simp only[Jn,doS,Vf];exact hu
 ·rw[Kq] at h2
  unfold Kr at h2
  have h3:Vi (tk,st,S,O,M,X,Q) 2 (ns.getD 0 Jb)=false:=by
   cases q:Vi (tk,st,S,O,M,X,Q) 2 (ns.getD 0 Jb) with
   |false=>rfl
   |true=>rw[q] at h2;cases h2
  rw[Jet] at h3
  have h3:=of_decide_eq_false h3
  simp only[Jn,doS,Kq]
  exact Jqk hu (by dsimp only at h3⊢;omega)
 ·rw[Ke] at h1
  have h3:=J1y ((Jl h1).1 rfl)
  simp only[Jn,doS,Ke]
  exact J27 hu h3
 ·simp only[Jn,doS,Kt];exact hu
 ·simp only[Jn,doS,Ks];exact hu
 ·simp only[Jn,doS,Um];exact hu
theorem Jwi {h:J2} {e:Ev} (hk:(e.2.1.toList==Js.toList)=false) (ha:Lh h e=0):Kh (J4 h.2.2) e.2.2.1 (Ji e.2.1).1 0=false∧Kr (J4 h.2.2) e.2.2.1 (Ji e.2.1).1 0=false:=by
 obtain⟨n,k,ns,vs,tx⟩:=e
 have:=Dk ((Yl (h:=h) (n:=n) (k:=k) (ns:=ns) (vs:=vs) (tx:=tx) hk).symm.trans ha)
 exact⟨this.2.2.1,this.2.2.2.1⟩
theorem Jnv {h:J2} {e:Ev} (hu:Jlt h) (ha:Ko h e=0):Jlt (Zb h e):=by
 obtain⟨hc,hacc⟩:=add_zero ha
 intro r hr
 unfold Zb at hr
 cases hk:e.2.1.toList==Js.toList with
 |true=>
  rw[hk,cond_true] at hr
  exact hu r (List.mem_of_mem_take hr)
 | false =>
  rw[hk,cond_false] at hr
  rcases Vz hr with hr|hr
  ·exact hu r hr
  ·subst hr
   have:=Jwi hk hacc
   exact Jyc (Jmy hu) (K9 hc).kind this.1 this.2
def H4 (l:List Ev):List Ev:=if(Ja l).2.2=0 then(Ja l).1.2.1 else[]
def K5o:Con:={args:=[.val false (.list 67 sEv)],ress:=[(false, .list 67 sEv),(true,Jdu),I,I],owns:=[],pre:=fun(l,_)=>[lOk l],spec:=fun(l,_)=>(H4 l,Jx l,(Ja l).2.1,(Ja l).2.2,())}
abbrev Kcw (l:List Ev):Ann:={X:=J2×Nat,σ:=fun(h,i)=>⟨4,[(0, .one (.sl 0)),(3, .one (.ptr 1 0)),(6, .one (.sl 2)),(7, .one (.sl 3)),(8, .one (.int .i64 i))],[(0, .imm 67 sEv l),(1, .box 37 Jjo),(2, .own 67 sEv h.2.1),(3, .own 37 Jdu (K5::h.2.2))]⟩,inv:=fun(h,i)=>Vp h∧Jlt h∧h.1.length=i∧i≤l.length∧l.length≤1000∧X7 h (l.drop i)=Ja l,mu:=fun(_,i)=>l.length-i}
theorem Jer:Jlt Vt:=fun _ h=>(by cases h)
theorem K5j {C:List Ev} {G:List Reg} (h:G.length=C.length):(K5::G).getD C.length K5=J4 G:=by
 unfold J4
 rw[←h]
 cases G with
 |nil=>rfl
 |cons a G=>rfl
theorem Kap {h:J2} {e:Ev} {l l':List Ev} {v:Int} (hr:X7 h (e::l')=Ja l) (ha:Ko h e=v) (hv:v≠0):[]=H4 l∧K5=Jx l∧(h.1.length:Int)+1=(Ja l).2.1∧v=(Ja l).2.2:=by
 unfold X7 at hr
 rw[if_neg (by rw[ha];exact hv),ha] at hr
 refine⟨?_, ?_,by rw[←hr],by rw[←hr]⟩
 ·unfold H4;rw[←hr,if_neg (by exact hv)]
 ·unfold Jx;rw[←hr,if_neg (by exact hv)]
theorem Jtd {h:J2} {e:Ev} {l l':List Ev} (hr:X7 h (e::l')=Ja l) (ha:Ko h e=0):X7 (Zb h e) l'=Ja l:=by
 unfold X7 at hr
 rwa[if_pos ha] at hr
theorem Kdb {E C:List Ev} {G:List Reg} {e:Ev} {k:Nat} (hk:E.length=k):Ko (E,C,G) e=bif (bif Jc e==0 then e.1 !=(k:Int)+1 else false) then 11 else bif (bif Jc e==0 then e.2.1.toList==Js.toList else false) then(bif (C.length:Int)==0 then 12 else bif (C.getD (C.length-1) ev0).2.1.toList==Jg.toList then 21 else 0) else bif Jc e==0 then Vd (J4 G) e else Jc e:=by
 subst hk
 unfold Ko
 by_cases hc:Jc e=0
 ·rw[if_neg (by rw[hc];simp),hc,show((0:Int)==0)=true from rfl,cond_true,cond_true,cond_true]
  cases h1:e.1 !=(E.length:Int)+1 with
  |true=>unfold Lh;rw[h1];rfl
  |false=>
   cases h2:e.2.1.toList==Js.toList with
   |true=>unfold Lh;rw[h1,h2];rfl
   |false=>rw[cond_false,cond_false];exact Jwj (h:=(E,C,G)) (bne_eq_false_iff_eq.1 h1) h2
 ·rw[if_pos hc,beq_false_of_ne hc,cond_false,cond_false,cond_false];rfl
def Z59 (a:J2×Nat):=Ln a.1.2.1-1
def K0k (a:List Ev) (b:J2×Nat):=Lb (J0j a b).1 Js
def Kz7:=[Vj]
def Kw7 (a:J2×Nat):=List.getD (K5::a.1.2.2) (List.length a.1.2.1) Vj
def Kw3 (a:J2×Nat):=(Kw7 a).2
def Kw1 (a:J2×Nat):=(Kw3 a).2
def Kwz (a:J2×Nat):=(0+List.length (K5::a.1.2.2))*136≤140737488355328∧(List.length (K5::a.1.2.2)+1)*136≤140737488355328
def Kwy (a:J2×Nat):=(Kw1 a).2
def Kir (a:J2×Nat):=(Kwy a).2
def Kwu (a:J2×Nat):=(Kir a).2
def Kwn (a:J2×Nat) (b:List Ev):=(0+List.length a.1.2.1)*88≤140737488355328∧T2 (Z26 a b) ((List.length a.1.2.1+1)*88≤140737488355328)
def Kwc (a:(List Ev×List Ev×List Reg)×Nat) (b:List Ev):=Vp a.1∧Jlt a.1∧J2e a b
def Khg (a:(List Ev×List Ev×List Reg)×Nat) (b:List Ev) (c:J2×Nat):=Kwc a b∧List.length b-a.2<List.length b-c.2
def Kds (a:List Ev) (b:J2×Nat):=Jc (Jrn a b)
def Kdq (a:List Ev) (b:J2×Nat):=Kds a b==0
def Ktl (a:List Ev) (b:J2×Nat):=Kdq a b=true
def Ktj (a:J2×Nat) (b:List Ev) (c:(List Ev×List Ev×List Reg)×Nat):=a.1.2.1++[Jrn b a]=c.1.2.1
def Ktc (a:List Ev) (b:J2×Nat):=Ktl a b→Z26 b a
def Jw1 (a:J2×Nat):=((Kw7 a).1,(Kw3 a).1,(Kw1 a).1,(Kwy a).1,(Kir a).1,E2 (Kwu a))
def J7o (a:J2×Nat) (b:List Ev):=Ye (Jw1 a) (Jrn b a)
def J7n (a:J2×Nat) (b:List Ev):=Vd (Jw1 a) (Jrn b a)
def J7m (a:J2×Nat) (b:List Ev):=(J7o a b).2
def J7l (a:J2×Nat) (b:List Ev):=(J7m a b).2
def J7k (a:J2×Nat) (b:List Ev):=(J7l a b).2
def J7j (a:J2×Nat) (b:List Ev):=(J7k a b).2
def Jwy (a:J2×Nat) (b:List Ev):=Kwn a b∧Kwz a∧Z31 a∧∃(y:(List Ev×List Ev×List Reg)×Nat),(Jl1 a y∧Sf b (Si 0 (Si 0 (Sf Jo (Sf Jo (Sf Jo (Sf Jo (Sf Jo (Ktj a b y∧K5::(a.1.2.2++Kz7)=K5::y.1.2.2)))))))))∧Khg y b a
def Jwv (a:J2×Nat) (b:List Ev):=T2 (Bd (Ln a.1.2.1) (Ln (K5::a.1.2.2))) (T2 (Z26 a b) (Jj (Jw1 a)∧Ja6 (Kwu a).1∧List.length (Kir a).1<10000∧Kds b a=0∧K0k b a=false))∧Br (J7n a b !=0) (Z31 a∧[]=H4 b∧Jnw b∧J2w a b∧J7n a b=(Ja b).2.2) (Kwn a b∧Kwz a∧Z31 a∧∃(y:(List Ev×List Ev×List Reg)×Nat),(Jl1 a y∧Sf b (Si 0 (Si 0 (Sf Jo (Sf Jo (Sf Jo (Sf Jo (Sf Jo (Ktj a b y∧K5::(a.1.2.2++[((J7o a b).1,(J7m a b).1,(J7l a b).1,(J7k a b).1,(J7j a b).1,E2 (J7j a b).2)])=K5::y.1.2.2)))))))))∧Khg y b a)
def J6x (a:J2×Nat) (b:List Ev):=Br (Ln a.1.2.1==0) (Br false (Jwv a b) (Br true (Z31 a∧[]=H4 b∧Jnw b∧J2w a b∧12=(Ja b).2.2) (Jwy a b))) ((Iw (Z59 a)∧Tw (Bd (Z59 a) (Ln a.1.2.1)))∧Br (Lb (Gt a.1.2.1 (Z59 a) Lz).2.1 Jg) (Br false (Jwv a b) (Br true (Z31 a∧[]=H4 b∧Jnw b∧J2w a b∧21=(Ja b).2.2) (Jwy a b))) ((Iw (Z59 a)∧(0≤Z59 a∧Z59 a≤Ln a.1.2.1)∧0≤Ln a.1.2.1∧Ln a.1.2.1≤Ln (K5::a.1.2.2))∧Z31 a∧∃(y:(List Ev×List Ev×List Reg)×Nat),(Jl1 a y∧Sf b (Si 0 (Si 0 (Sf Jo (Sf Jo (Sf Jo (Sf Jo (Sf Jo (List.take (Int.toNat (Z59 a)) a.1.2.1=y.1.2.1∧List.take (List.length a.1.2.1) (K5::a.1.2.2)=K5::y.1.2.2)))))))))∧Khg y b a))
theorem K4f:Ok Tryz.prog 82 K5o:=okW K13 Tryz.f82 (fun xx=>X3 (Kcw xx.1)) fun xx=>by
 obtain⟨(l:List Ev),_⟩:=xx
 refine(by kernel_rfl:(lOk l→Br (Z87 l) ([]=H4 l∧Kh1 l) (∃(x:(List Ev×List Ev×List Reg)×Nat),(0=Nc x.2∧Sf l (Si 0 (Si 0 (Sf Jo (Sf Jo (Sf Jo (Sf Jo (Sf Jo (List.length x.1.2.1=0∧Kz7=K5::x.1.2.2)))))))))∧Kwc x l∧∀(x:J2×Nat),Vp x.1∧Jlt x.1∧J2d x l→Br (Jsj x l) (T2 (Z26 x l) (List.length (Jwo l x).1≤1000000∧List.length (Jwo l x).2.1≤1000000∧∀(s:ByteArray),s∈(Jwo l x).1→ByteArray.size s≤1000000)∧T2 (Ktc l x) (Ktl l x→Z31 x)∧Br (bif Kdq l x then(J0k l x).1 !=Nc x.2+1 else false) (Tw (false=true→Z26 x l)∧Br false (J6x x l) (Br false (Jwv x l) (Br true (Z31 x∧[]=H4 l∧Jnw l∧J2w x l∧11=(Ja l).2.2) (Jwy x l)))) (Tw (Ktc l x)∧Br (bif Kdq l x then K0k l x else false) (J6x x l) (Br (Kdq l x) (Jwv x l) (Br (Kds l x !=0) (Z31 x∧[]=H4 l∧Jnw l∧J2w x l∧Kds l x=(Ja l).2.2) (Jwy x l))))) (Tw (Bd (Ln x.1.2.1) (Ln (K5::x.1.2.2)))∧x.1.2.1=H4 l∧Jw1 x=Jx l∧Kfw l)))=_).mp ?_
 delta Z26 Z31 Z59 Z87 Jsj Jl1 Jo J2w Lz Kfw J0k J0j Jwo Lj Vj K0k Kz7 Jnw Kw7 Kw3 Kw1 Kwz Kwy J2e J2d Kir Kwu Kwn Kh1 Kwc Khg Jrn Kds Kdq Ktl Ktj Ktc Jw1 J7o J7n J7m J7l J7k J7j Jwy Jwv J6x Br Iw Bd T2 Tw Sf Si Ln Nc Gt B0 Lb E2 Jg Js
 intro hl
 have hbn:({data:={toList:=[]}}:ByteArray)=Jb:=rfl
 have hev:((0:Int),Jb,([]:List ByteArray),([]:List Int),Jb)=ev0:=rfl
 have hrg:((0:Int),(0:Int),([]:List Sta),([]:List Ord),([]:List Met),([]:List Out),([]:List Per))=K5:=rfl
 have hun:({data:={toList:=[117,110,100,111]}}:ByteArray)=Js:=rfl
 have hse:({data:={toList:=[115,101,116,116,108,101]}}:ByteArray)=Jg:=rfl
 simp only[hbn,hev,hrg,hun,hse,Prod.eta,Bool.false_eq_true,Bool.true_eq_false,false_implies,true_implies,true_and,and_true]
 refine⟨fun h=> ?_,fun h=>⟨(([],[],[]),(0:Nat)),by(repeat' first|exact rfl|exact⟨⟩|apply And.intro|omega|dsimp only;omega), ?_,fun(x:J2×Nat) hk=> ?_⟩⟩
 ·have e:Ja l=(Vt,0,5):=by unfold Ja;rw[if_pos (by have:=of_decide_eq_true h;omega)]
  refine⟨?_, ?_,by rw[e],by rw[e]⟩
  ·unfold H4;rw[e];rfl
  ·unfold Jx;rw[e];rfl
 ·have hn:l.length≤1000:=by have:=of_decide_eq_false h;omega
  exact⟨Vh,Jer,rfl,Nat.zero_le _,hn,by unfold Ja;rw[if_neg (by omega)];rfl⟩
 ·obtain⟨⟨E,C,G⟩,k⟩:=x
  obtain⟨hI,hU,hk1,hk2,hk3,hk4⟩:=hk
  dsimp only at hI hU hk1 hk2 hk3 hk4⊢
  have hG:G.length=C.length:=hI.ok.nG
  have hC:C.length≤E.length:=hI.ok.nC
  have hN:=K5j hG
  have hR:Jj (J4 G):=Yq hI.ok
  have hUx:Ja6 (J4 G).2.2.2.2.2.1:=Jmy (h:=(E,C,G)) hU
  have hM:(J4 G).2.2.2.2.1.length≤E.length:=Jt1 hI
  simp only[hN]
  refine⟨fun hlt=> ?_,fun hge=> ?_⟩
  ·have hlt:(k:Int)<l.length:=of_decide_eq_true hlt
   have hz:=hl.2 _ (Jd (d:=ev0) (show k<l.length by omega))
   rw[Jp (d:=ev0) (by omega)] at hk4
   generalize l.getD k ev0=e at*
   have hA:=Kdb (C:=C) (G:=G) (e:=e) hk1
   have hT:((C.length:Int)-1).toNat=C.length-1:=by omega
   rw[hT]
   have hi64:(-9223372036854775808≤(k:Int)+1∧(k:Int)+1≤9223372036854775807):=⟨by omega,by omega⟩
   have hkk:(0≤(k:Int)∧(k:Int)<l.length):=⟨by omega,hlt⟩
   have no:∀v,Ko (E,C,G) e=v→v≠0→[]=H4 l∧K5=Jx l∧(k:Int)+1=(Ja l).2.1∧v=(Ja l).2.2:=fun v p q=>by
    have:=Kap hk4 p q
    dsimp only at this
    rwa[hk1] at this
   have len1:((K5::G).length:Int)=G.length+1:=by simp
   have len2:(K5::G).length=G.length+1:=by simp
   refine⟨⟨hkk,hkk,hz⟩,⟨fun _=>hkk,fun _=>hkk,fun _=>hi64⟩,fun a=>⟨hi64,no 11 (by rw[hA,a];rfl) (by decide)⟩,fun a=>⟨⟨fun _=>hkk,fun _=>hkk⟩,fun b=>⟨fun c=>⟨hi64,no 12 (by rw[hA,a,b,c];rfl) (by decide)⟩,fun c=> ?_⟩,fun b=>⟨fun c=> ?_,fun c=> ?_⟩⟩⟩
   ·have c0:(C.length:Int)≠0:=by simpa using c
    refine⟨⟨⟨by omega,by omega⟩,⟨by omega,by omega⟩,by omega,by omega⟩,fun d=>⟨hi64,no 21 (by rw[hA,a,b,c,d];rfl) (by decide)⟩,fun d=> ?_⟩
    have ha:Ko (E,C,G) e=0:=by rw[hA,a,b,c,d];rfl
    have hu:(e.2.1.toList==Js.toList)=true:=by
     cases q:Jc e==0 with
     |true=>rw[q] at b;exact b
     |false=>rw[q] at b;cases b
    have eH:Zb (E,C,G) e=(E++[e],C.take (C.length-1),G.take (C.length-1)):=by unfold Zb;rw[hu,cond_true]
    refine⟨⟨⟨by omega,by omega⟩,⟨by omega,by omega⟩,by omega,by omega⟩,hi64,(Zb (E,C,G) e,k+1),⟨by push_cast;rfl,by rw[eH], ?_⟩,⟨Di hI (by show E.length<1000;omega) ha,Jnv hU ha,by rw[Xi];show E.length+1=k+1;omega,by show k+1≤l.length;omega,hk3,Jtd hk4 ha⟩,by show l.length-(k+1)<_;omega⟩
    rw[eH]
    have q:C.length=(C.length-1)+1:=by omega
    show List.take C.length (K5::G)=K5::G.take (C.length-1)
    conv=>lhs;rw[q]
    rfl
   ·have c0:Jc e=0:=by simpa using c
    have hu:(e.2.1.toList==Js.toList)=false:=by rw[c] at b;exact b
    have hA2:Ko (E,C,G) e=Vd (J4 G) e:=by rw[hA,a,b,c];rfl
    refine⟨⟨⟨by omega,by omega⟩,⟨by omega,by omega⟩,hkk,hkk,hR,hUx,Nat.lt_of_le_of_lt hM (by omega),c0,hu⟩,fun d=>⟨hi64,no _ hA2 (bne_iff_ne.1 d)⟩,fun d=> ?_⟩
    have d0:Vd (J4 G) e=0:=bne_eq_false_iff_eq.1 d
    have ha:=hA2.trans d0
    have eH:Zb (E,C,G) e=(E++[e],C++[e],G++[Jn (J4 G) e]):=by unfold Zb;rw[hu,cond_false]
    refine⟨⟨by omega,hkk,hkk,by omega⟩,⟨by omega,by omega⟩,hi64,(Zb (E,C,G) e,k+1),⟨by push_cast;rfl,by rw[eH],by rw[eH,Jjh d0]⟩,⟨Di hI (by show E.length<1000;omega) ha,Jnv hU ha,by rw[Xi];show E.length+1=k+1;omega,by show k+1≤l.length;omega,hk3,Jtd hk4 ha⟩,by show l.length-(k+1)<_;omega⟩
   ·have c0:Jc e≠0:=by simpa using c
    exact⟨fun d=>⟨hi64,no _ (by rw[hA,a,b,c];rfl) c0⟩,fun d=>absurd (bne_eq_false_iff_eq.1 d) c0⟩
  ·have hge:=of_decide_eq_false hge
   have:k=l.length:=by omega
   rw[this,List.drop_length,X7] at hk4
   have eR:Jx l=J4 G:=by unfold Jx;rw[←hk4];rfl
   have eC:H4 l=C:=by unfold H4;rw[←hk4];rfl
   have len1:((K5::G).length:Int)=G.length+1:=by simp
   exact⟨⟨⟨by omega,by omega⟩,by omega,by omega⟩,eC.symm,eR.symm,by rw[←hk4],by rw[←hk4]⟩
abbrev K12:=K13.add K4f
theorem Jta {e:Ev} (h:Xk e=true):e.2.1.size≤40∧e.2.2.1.length≤6∧e.2.2.2.1.length≤8∧e.2.2.2.2.size≤200∧∀s∈e.2.2.1,s.size≤40:=by
 unfold Xk at h
 cases q:Jgz e with
 |true=>rw[q] at h;cases h
 |false=>
  rw[q,cond_false] at h
  unfold Jgz at q
  have q1:=bn1 q
  have q2:=bn1 q1.1
  have q3:=bn1 q2.1
  have a1:=of_decide_eq_false q1.2
  have a2:=of_decide_eq_false q2.2
  have a3:=of_decide_eq_false q3.2
  have a4:=of_decide_eq_false q3.1
  refine⟨by omega,by omega,by omega,by omega,fun s hs=> ?_⟩
  have:=List.all_eq_true.1 h s hs
  have:decide (40<(s.size:Int))=false:=by simpa using this
  have:=of_decide_eq_false this
  omega
theorem Jkc {l:List Ev} {n:Int} (hn:n≤1000) (h:Xj l n=true):lOk l∧(l.length:Int)≤n:=by
 unfold Xj at h
 cases q:decide (n<(l.length:Int)) with
 |true=>rw[q] at h;cases h
 |false=>
  rw[q,cond_false] at h
  have q:=of_decide_eq_false q
  refine⟨⟨by omega,fun e he=> ?_⟩,by omega⟩
  have b:=Jta (List.all_eq_true.1 h e he)
  exact⟨by omega,by omega,fun s hs=>by have:=b.2.2.2.2 s hs;omega⟩
def Kbm:Con:={args:=[.val false (.list 67 sEv)],ress:=[(true,Jdu),I,I],owns:=[],pre:=fun(l,_)=>[lOk l],spec:=fun(l,_)=>(Jx l,(Ja l).2.1,(Ja l).2.2,())}
theorem K5e:Ok Tryz.prog 17 Kbm:=okW K12 Tryz.f17 na fun xx=>by
 obtain⟨(l:List Ev),_⟩:=xx
 refine(by kernel_rfl:(lOk l→lOk l∧Jxr l=Jx l∧Si (Ja l).2.1 ((Ja l).2.2=(Ja l).2.2))=_).mp ?_
 delta Jxr Si E2
 intro hl
 exact⟨hl,rfl,rfl,rfl⟩
abbrev K6k:=K12.add K5e
abbrev K6j:=K6k
abbrev K6i:=K6j
abbrev K6h:=K6i
abbrev K6g:=K6h
abbrev K6f:=K6g
theorem J4d {l:List Ev}:(H4 l).length≤1000:=by
 have hi:=(L8 (l:=l)).ok
 have h1:=hi.nC
 have h2:=hi.nE
 unfold H4
 by_cases h:(Ja l).2.2=0
 ·rw[if_pos h];omega
 ·rw[if_neg h];exact Nat.zero_le _
abbrev K11:=K6f
abbrev Krc (tk st:Int) (S:List Sta) (O:List Ord) (M:List Met) (X:List Out) (Q:List Per):Nat→Option Ann:=fun id=>if id=0 then some {X:=Nat,σ:=fun k=>⟨9,[(1, .one (.ptr 5 0)),(2, .one (.ptr 6 0)),(3, .one (.ptr 7 0)),(20, .one (.sl 0)),(21, .one (.int .i64 S.length)),(22, .one (.int .i64 k))],[(0, .imm 127 Xh S),(1, .imm 130 Yt O),(2, .imm 155 Xw M),(3, .imm 188 V5 X),(4, .imm 235 Ys Q),(5, .box 105 [.int .i64 tk, .int .i64 st, .sl 0, .sl 1, .sl 2, .sl 3, .sl 4]),(6, .box 37 Jjo),(7, .box 37 [.int .i64 tk, .int .i64 st, .sl 8, .val (.slice none 0 0), .val (.slice none 0 0), .val (.slice none 0 0), .val (.slice none 0 0)]),(8, .own 114 Xh (S.take k))]⟩,inv:=fun k=>k≤S.length,mu:=fun k=>S.length-k} else if id=2 then some {X:=Nat,σ:=fun k=>⟨10,[(1, .one (.ptr 5 0)),(2, .one (.ptr 6 0)),(3, .one (.ptr 7 0)),(34, .one (.sl 1)),(35, .one (.int .i64 O.length)),(36, .one (.int .i64 k))],[(0, .imm 127 Xh S),(1, .imm 130 Yt O),(2, .imm 155 Xw M),(3, .imm 188 V5 X),(4, .imm 235 Ys Q),(5, .box 105 [.int .i64 tk, .int .i64 st, .sl 0, .sl 1, .sl 2, .sl 3, .sl 4]),(6, .box 37 Jjo),(7, .box 37 [.int .i64 tk, .int .i64 st, .sl 8, .sl 9, .val (.slice none 0 0), .val (.slice none 0 0), .val (.slice none 0 0)]),(8, .own 114 Xh S),(9, .own 119 Yt (O.take k))]⟩,inv:=fun k=>k≤O.length,mu:=fun k=>O.length-k} else if id=4 then some {X:=Nat,σ:=fun k=>⟨11,[(1, .one (.ptr 5 0)),(2, .one (.ptr 6 0)),(3, .one (.ptr 7 0)),(48, .one (.sl 2)),(49, .one (.int .i64 M.length)),(50, .one (.int .i64 k))],[(0, .imm 127 Xh S),(1, .imm 130 Yt O),(2, .imm 155 Xw M),(3, .imm 188 V5 X),(4, .imm 235 Ys Q),(5, .box 105 [.int .i64 tk, .int .i64 st, .sl 0, .sl 1, .sl 2, .sl 3, .sl 4]),(6, .box 37 Jjo),(7, .box 37 [.int .i64 tk, .int .i64 st, .sl 8, .sl 9, .sl 10, .val (.slice none 0 0), .val (.slice none 0 0)]),(8, .own 114 Xh S),(9, .own 119 Yt O),(10, .own 121 Xw (M.take k))]⟩,inv:=fun k=>k≤M.length,mu:=fun k=>M.length-k} else if id=6 then some {X:=Nat,σ:=fun k=>⟨12,[(1, .one (.ptr 5 0)),(2, .one (.ptr 6 0)),(3, .one (.ptr 7 0)),(62, .one (.sl 3)),(63, .one (.int .i64 X.length)),(64, .one (.int .i64 k))],[(0, .imm 127 Xh S),(1, .imm 130 Yt O),(2, .imm 155 Xw M),(3, .imm 188 V5 X),(4, .imm 235 Ys Q),(5, .box 105 [.int .i64 tk, .int .i64 st, .sl 0, .sl 1, .sl 2, .sl 3, .sl 4]),(6, .box 37 Jjo),(7, .box 37 [.int .i64 tk, .int .i64 st, .sl 8, .sl 9, .sl 10, .sl 11, .val (.slice none 0 0)]),(8, .own 114 Xh S),(9, .own 119 Yt O),(10, .own 121 Xw M),(11, .own 123 V5 (X.take k))]⟩,inv:=fun k=>k≤X.length,mu:=fun k=>X.length-k} else if id=8 then some {X:=Nat,σ:=fun k=>⟨13,[(1, .one (.ptr 5 0)),(2, .one (.ptr 6 0)),(3, .one (.ptr 7 0)),(76, .one (.sl 4)),(77, .one (.int .i64 Q.length)),(78, .one (.int .i64 k))],[(0, .imm 127 Xh S),(1, .imm 130 Yt O),(2, .imm 155 Xw M),(3, .imm 188 V5 X),(4, .imm 235 Ys Q),(5, .box 105 [.int .i64 tk, .int .i64 st, .sl 0, .sl 1, .sl 2, .sl 3, .sl 4]),(6, .box 37 Jjo),(7, .box 37 [.int .i64 tk, .int .i64 st, .sl 8, .sl 9, .sl 10, .sl 11, .sl 12]),(8, .own 114 Xh S),(9, .own 119 Yt O),(10, .own 121 Xw M),(11, .own 123 V5 X),(12, .own 125 Ys (Q.take k))]⟩,inv:=fun k=>k≤Q.length,mu:=fun k=>Q.length-k} else none
def Kqj:Con:={args:=[Ja1],ress:=[(true,Jdu)],owns:=[],pre:=fun((_,_,S,O,M,X,Q),_)=>[S.length≤1000000,O.length≤1000000,M.length≤1000000,X.length≤1000000,Q.length≤1000000],spec:=fun(r,_)=>(r,())}
theorem K4y:Ok Tryz.prog 56 Kqj:=okW K11 Tryz.f56 (fun xx=>Krc xx.1.1 xx.1.2.1 xx.1.2.2.1 xx.1.2.2.2.1 xx.1.2.2.2.2.1 xx.1.2.2.2.2.2.1 xx.1.2.2.2.2.2.2) fun xx=>by
 obtain⟨⟨(tk:Int),(st:Int),(S:List Sta),(O:List Ord),(M:List Met),(X:List Out),(Q:List Per)⟩,_⟩:=xx
 refine(by kernel_rfl:(Z46 S→Z57 O→Z42 M→Z43 X→Z44 Q→∃(x:Nat),Si (Ln S) (0=Nc x∧Sf S (Sf O (Sf M (Sf X (Sf Q (Si tk (Si st (Si 0 (Si 0 (Sf Jo (Sf Jo (Sf Jo (Sf Jo (Sf Jo (Si tk (Si st (Sf Jo (Sf Jo (Sf Jo (Sf Jo (List.length (List.take x S)=0)))))))))))))))))))))∧x≤List.length S∧∀(x:Nat),x≤List.length S→Br (decide (Nc x<Ln S)) (Tw (Bd (Nc x) (Ln S))∧(List.length (List.take x S)+1)*32≤140737488355328∧Z14 x∧∃(y:Nat),Si (Ln S) (Z91 x y∧Sf S (Sf O (Sf M (Sf X (Sf Q (Si tk (Si st (Si 0 (Si 0 (Sf Jo (Sf Jo (Sf Jo (Sf Jo (Sf Jo (Si tk (Si st (Sf Jo (Sf Jo (Sf Jo (Sf Jo (List.take x S++[Kjr S x]=List.take y S)))))))))))))))))))))∧y≤List.length S∧J2s S y x) (∃(x_1:Nat),Si (Ln O) (0=Nc x_1∧Sf S (Sf O (Sf M (Sf X (Sf Q (Si tk (Si st (Si 0 (Si 0 (Sf Jo (Sf Jo (Sf Jo (Sf Jo (Sf Jo (Si tk (Si st (Sf Jo (Sf Jo (Sf Jo (List.take x S=S∧List.length (List.take x_1 O)=0))))))))))))))))))))∧x_1≤List.length O∧∀(x:Nat),x≤List.length O→Br (Z98 x O) (Tw (Bd (Nc x) (Ln O))∧(List.length (List.take x O)+1)*88≤140737488355328∧Z14 x∧∃(y:Nat),Si (Ln O) (Z91 x y∧Sf S (Sf O (Sf M (Sf X (Sf Q (Si tk (Si st (Si 0 (Si 0 (Sf Jo (Sf Jo (Sf Jo (Sf Jo (Sf Jo (Si tk (Si st (Sf Jo (Sf Jo (Sf Jo (Sf S (List.take x O++[Kdo O x]=List.take y O)))))))))))))))))))))∧J9i y O x) (∃(x_2:Nat),Si (Ln M) (0=Nc x_2∧Sf S (Sf O (Sf M (Sf X (Sf Q (Si tk (Si st (Si 0 (Si 0 (Sf Jo (Sf Jo (Sf Jo (Sf Jo (Sf Jo (Si tk (Si st (Sf Jo (Sf Jo (Sf S (List.take x O=O∧List.length (List.take x_2 M)=0))))))))))))))))))))∧x_2≤List.length M∧∀(x:Nat),x≤List.length M→Br (decide (Nc x<Ln M)) (Tw (Bd (Nc x) (Ln M))∧(List.length (List.take x M)+1)*40≤140737488355328∧Z14 x∧∃(y:Nat),Si (Ln M) (Z91 x y∧Sf S (Sf O (Sf M (Sf X (Sf Q (Si tk (Si st (Si 0 (Si 0 (Sf Jo (Sf Jo (Sf Jo (Sf Jo (Sf Jo (Si tk (Si st (Sf Jo (Sf Jo (Sf S (Sf O (List.take x M++[J8t M x]=List.take y M)))))))))))))))))))))∧y≤List.length M∧J2r M y x) (∃(x_3:Nat),Si (Ln X) (0=Nc x_3∧Sf S (Sf O (Sf M (Sf X (Sf Q (Si tk (Si st (Si 0 (Si 0 (Sf Jo (Sf Jo (Sf Jo (Sf Jo (Sf Jo (Si tk (Si st (Sf Jo (Sf S (Sf O (List.take x M=M∧List.length (List.take x_3 X)=0))))))))))))))))))))∧x_3≤List.length X∧∀(x:Nat),x≤List.length X→Br (Z92 x X) (Z78 x X∧(List.length (List.take x X)+1)*56≤140737488355328∧Z14 x∧∃(y:Nat),Si (Ln X) (Z91 x y∧Sf S (Sf O (Sf M (Sf X (Sf Q (Si tk (Si st (Si 0 (Si 0 (Sf Jo (Sf Jo (Sf Jo (Sf Jo (Sf Jo (Si tk (Si st (Sf Jo (Sf S (Sf O (Sf M (List.take x X++Kg5 X x=List.take y X)))))))))))))))))))))∧Jwn y X x) (∃(x_4:Nat),Si (Ln Q) (0=Nc x_4∧Sf S (Sf O (Sf M (Sf X (Sf Q (Si tk (Si st (Si 0 (Si 0 (Sf Jo (Sf Jo (Sf Jo (Sf Jo (Sf Jo (Si tk (Si st (Sf S (Sf O (Sf M (List.take x X=X∧List.length (List.take x_4 Q)=0))))))))))))))))))))∧x_4≤List.length Q∧∀(x:Nat),x≤List.length Q→Br (Z99 x Q) (Z77 x Q∧(List.length (List.take x Q)+1)*40≤140737488355328∧Z14 x∧∃(y:Nat),Si (Ln Q) (Z91 x y∧Sf S (Sf O (Sf M (Sf X (Sf Q (Si tk (Si st (Si 0 (Si 0 (Sf Jo (Sf Jo (Sf Jo (Sf Jo (Sf Jo (Si tk (Si st (Sf S (Sf O (Sf M (Sf X (List.take x Q++Kjn Q x=List.take y Q)))))))))))))))))))))∧J0i y Q x) ((tk,st,S,O,M,X,List.take x Q)=Z60 tk st S O M X Q))))))=_).mp ?_
 delta Z12 Z14 Z42 Z43 Z44 Z46 Z57 Z60 Z66 Z77 Z78 Z91 Z92 Z98 Z99 Jwt Jsh Jx0 Jo Jcw J2u J2t J2s Jws Jse J2r J6p J2l J0p J2j Jxt Jro J0m Jwr J0l Jdh J9i J0i Jwn J6a J0h J9e J9c J59 J58 J9b J57 J9a J56 J89 J55 Kjr Kjn J8t J5z Kg5 Kdo Br Iw Bd Tw Sf Si Ln Nc B0 E2
 intro hS hO hM hX hQ
 refine⟨(0:Nat),by(repeat' first|exact rfl|exact⟨⟩|apply And.intro|omega|dsimp only;omega),Nat.zero_le _,fun(k:Nat) hk=>⟨fun h=> ?_,fun h=> ?_⟩⟩
 ·have hlt:k<S.length:=by simpa using h
  refine⟨⟨⟨by omega,by omega⟩,by omega,by omega⟩,by rw[List.length_take];omega,⟨by omega,by omega⟩,(k+1:Nat), ?_,by omega,by omega⟩
  repeat' first|exact rfl|apply And.intro|exact K4 (d:=(Jb,0,0)) hlt|(push_cast;rfl)
 rw[List.take_of_length_le (by have:¬k<S.length:=(by simpa using h);omega)]
 clear h hk k
 refine⟨(0:Nat),by(repeat' first|exact rfl|exact⟨⟩|apply And.intro|omega|dsimp only;omega),Nat.zero_le _,fun(k:Nat) hk=>⟨fun h=> ?_,fun h=> ?_⟩⟩
 ·have hlt:k<O.length:=by simpa using h
  refine⟨⟨⟨by omega,by omega⟩,by omega,by omega⟩,by rw[List.length_take];omega,⟨by omega,by omega⟩,(k+1:Nat), ?_,by omega,by omega⟩
  repeat' first|exact rfl|apply And.intro|exact K4 (d:=(Jb,Jb,Jb,(0,0),0,0,0)) hlt|(push_cast;rfl)
 rw[List.take_of_length_le (by have:¬k<O.length:=(by simpa using h);omega)]
 clear h hk k
 refine⟨(0:Nat),by(repeat' first|exact rfl|exact⟨⟩|apply And.intro|omega|dsimp only;omega),Nat.zero_le _,fun(k:Nat) hk=>⟨fun h=> ?_,fun h=> ?_⟩⟩
 ·have hlt:k<M.length:=by simpa using h
  refine⟨⟨⟨by omega,by omega⟩,by omega,by omega⟩,by rw[List.length_take];omega,⟨by omega,by omega⟩,(k+1:Nat), ?_,by omega,by omega⟩
  repeat' first|exact rfl|apply And.intro|exact K4 (d:=(Jb,0,0,0)) hlt|(push_cast;rfl)
 rw[List.take_of_length_le (by have:¬k<M.length:=(by simpa using h);omega)]
 clear h hk k
 refine⟨(0:Nat),by(repeat' first|exact rfl|exact⟨⟩|apply And.intro|omega|dsimp only;omega),Nat.zero_le _,fun(k:Nat) hk=>⟨fun h=> ?_,fun h=> ?_⟩⟩
 ·have hlt:k<X.length:=by simpa using h
  refine⟨⟨⟨by omega,by omega⟩,by omega,by omega⟩,by rw[List.length_take];omega,⟨by omega,by omega⟩,(k+1:Nat), ?_,by omega,by omega⟩
  repeat' first|exact rfl|apply And.intro|exact K4 (d:=(Jb,Jb,(0,0),0)) hlt|(push_cast;rfl)
 rw[List.take_of_length_le (by have:¬k<X.length:=(by simpa using h);omega)]
 clear h hk k
 refine⟨(0:Nat),by(repeat' first|exact rfl|exact⟨⟩|apply And.intro|omega|dsimp only;omega),Nat.zero_le _,fun(k:Nat) hk=>⟨fun h=> ?_,fun h=> ?_⟩⟩
 ·have hlt:k<Q.length:=by simpa using h
  refine⟨⟨⟨by omega,by omega⟩,by omega,by omega⟩,by rw[List.length_take];omega,⟨by omega,by omega⟩,(k+1:Nat), ?_,by omega,by omega⟩
  repeat' first|exact rfl|apply And.intro|exact K4 (d:=(Jb,Jb,false)) hlt|(push_cast;rfl)
 rw[List.take_of_length_le (by have:¬k<Q.length:=(by simpa using h);omega)]
abbrev K10:=K11.add K4y
abbrev Krb (tk st:Int) (S:List Sta) (O:List Ord) (M:List Met) (X:List Out) (Q:List Per) (tk2 st2:Int) (S2:List Sta) (O2:List Ord) (M2:List Met) (X2:List Out) (Q2:List Per):Nat→Option Ann:=fun id=>if id=0 then some {X:=Nat,σ:=fun k=>⟨12,[(2, .one (.ptr 10 0)),(3, .one (.ptr 11 0)),(5, .one (.int .i64 k))],[(0, .imm 114 Xh S),(1, .imm 119 Yt O),(2, .imm 121 Xw M),(3, .imm 123 V5 X),(4, .imm 125 Ys Q),(5, .imm 114 Xh S2),(6, .imm 119 Yt O2),(7, .imm 121 Xw M2),(8, .imm 123 V5 X2),(9, .imm 125 Ys Q2),(10, .box 37 [.int .i64 tk, .int .i64 st, .sl 0, .sl 1, .sl 2, .sl 3, .sl 4]),(11, .box 37 [.int .i64 tk2, .int .i64 st2, .sl 5, .sl 6, .sl 7, .sl 8, .sl 9])]⟩,inv:=fun k=>k≤S.length,mu:=fun k=>S.length-k} else if id=2 then some {X:=Nat,σ:=fun k=>⟨12,[(2, .one (.ptr 10 0)),(3, .one (.ptr 11 0)),(6, .one (.int .i64 k))],[(0, .imm 114 Xh S),(1, .imm 119 Yt O),(2, .imm 121 Xw M),(3, .imm 123 V5 X),(4, .imm 125 Ys Q),(5, .imm 114 Xh S2),(6, .imm 119 Yt O2),(7, .imm 121 Xw M2),(8, .imm 123 V5 X2),(9, .imm 125 Ys Q2),(10, .box 37 [.int .i64 tk, .int .i64 st, .sl 0, .sl 1, .sl 2, .sl 3, .sl 4]),(11, .box 37 [.int .i64 tk2, .int .i64 st2, .sl 5, .sl 6, .sl 7, .sl 8, .sl 9])]⟩,inv:=fun k=>k≤O.length,mu:=fun k=>O.length-k} else if id=4 then some {X:=Nat,σ:=fun k=>⟨12,[(2, .one (.ptr 10 0)),(3, .one (.ptr 11 0)),(7, .one (.int .i64 k))],[(0, .imm 114 Xh S),(1, .imm 119 Yt O),(2, .imm 121 Xw M),(3, .imm 123 V5 X),(4, .imm 125 Ys Q),(5, .imm 114 Xh S2),(6, .imm 119 Yt O2),(7, .imm 121 Xw M2),(8, .imm 123 V5 X2),(9, .imm 125 Ys Q2),(10, .box 37 [.int .i64 tk, .int .i64 st, .sl 0, .sl 1, .sl 2, .sl 3, .sl 4]),(11, .box 37 [.int .i64 tk2, .int .i64 st2, .sl 5, .sl 6, .sl 7, .sl 8, .sl 9])]⟩,inv:=fun k=>k≤M.length,mu:=fun k=>M.length-k} else if id=6 then some {X:=Nat,σ:=fun k=>⟨12,[(2, .one (.ptr 10 0)),(3, .one (.ptr 11 0)),(8, .one (.int .i64 k))],[(0, .imm 114 Xh S),(1, .imm 119 Yt O),(2, .imm 121 Xw M),(3, .imm 123 V5 X),(4, .imm 125 Ys Q),(5, .imm 114 Xh S2),(6, .imm 119 Yt O2),(7, .imm 121 Xw M2),(8, .imm 123 V5 X2),(9, .imm 125 Ys Q2),(10, .box 37 [.int .i64 tk, .int .i64 st, .sl 0, .sl 1, .sl 2, .sl 3, .sl 4]),(11, .box 37 [.int .i64 tk2, .int .i64 st2, .sl 5, .sl 6, .sl 7, .sl 8, .sl 9])]⟩,inv:=fun k=>k≤X.length,mu:=fun k=>X.length-k} else if id=8 then some {X:=Nat,σ:=fun k=>⟨12,[(2, .one (.ptr 10 0)),(3, .one (.ptr 11 0)),(9, .one (.int .i64 k))],[(0, .imm 114 Xh S),(1, .imm 119 Yt O),(2, .imm 121 Xw M),(3, .imm 123 V5 X),(4, .imm 125 Ys Q),(5, .imm 114 Xh S2),(6, .imm 119 Yt O2),(7, .imm 121 Xw M2),(8, .imm 123 V5 X2),(9, .imm 125 Ys Q2),(10, .box 37 [.int .i64 tk, .int .i64 st, .sl 0, .sl 1, .sl 2, .sl 3, .sl 4]),(11, .box 37 [.int .i64 tk2, .int .i64 st2, .sl 5, .sl 6, .sl 7, .sl 8, .sl 9])]⟩,inv:=fun k=>k≤Q.length,mu:=fun k=>Q.length-k} else none
def Kbk:Con:={args:=[Xo,Xo],ress:=[Bo],owns:=[],pre:=fun(a,b,_)=>[a=b,a.2.2.1.length≤1000000,a.2.2.2.1.length≤1000000,a.2.2.2.2.1.length≤1000000,a.2.2.2.2.2.1.length≤1000000,a.2.2.2.2.2.2.length≤1000000],spec:=fun _=>(true,())}
def Kz9 (a:List Ord) (b:Nat):=(J57 a b).2
def Kz5 (a:List Ord) (b:Nat):=(J57 a b).1
def Kz1 (a:List Ord) (b:Nat):=(J55 a b).2
def Kz0 (a:List Ord) (b:Nat):=(J55 a b).1
def J8p (a:Nat) (b:List Sta) (c:List Ord) (d:List Met) (e:List Out) (f:List Per) (g:List Sta) (h:List Ord) (i:List Met) (j:List Out) (k:List Per) (l m n o:Int):=0=Nc a∧Sf b (Sf c (Sf d (Sf e (Sf f (Sf g (Sf h (Sf i (Sf j (Sf k (Si l (Si m (Si n (o=o)))))))))))))
def J8o (a b:Nat) (c:List Sta) (d:List Ord) (e:List Met) (f:List Out) (g:List Per) (h:List Sta) (i:List Ord) (j:List Met) (k:List Out) (l:List Per) (m n o p:Int):=Z91 a b∧Sf c (Sf d (Sf e (Sf f (Sf g (Sf h (Sf i (Sf j (Sf k (Sf l (Si m (Si n (Si o (p=p)))))))))))))
theorem K4z:Ok Tryz.prog 55 Kbk:=okW K10 Tryz.f55 (fun xx=>Krb xx.1.1 xx.1.2.1 xx.1.2.2.1 xx.1.2.2.2.1 xx.1.2.2.2.2.1 xx.1.2.2.2.2.2.1 xx.1.2.2.2.2.2.2 xx.2.1.1 xx.2.1.2.1 xx.2.1.2.2.1 xx.2.1.2.2.2.1 xx.2.1.2.2.2.2.1 xx.2.1.2.2.2.2.2.1 xx.2.1.2.2.2.2.2.2) fun xx=>by
 obtain⟨⟨(tk:Int),(st:Int),(S:List Sta),(O:List Ord),(M:List Met),(X:List Out),(Q:List Per)⟩,⟨(tk2:Int),(st2:Int),(S2:List Sta),(O2:List Ord),(M2:List Met),(X2:List Out),(Q2:List Per)⟩,_⟩:=xx
 refine(by kernel_rfl:(Z60 tk st S O M X Q=Z60 tk2 st2 S2 O2 M2 X2 Q2→Z46 S→Z57 O→Z42 M→Z43 X→Z44 Q→Br (bif bif bif bif bif bif tk !=tk2 then true else st !=st2 then true else Ln S !=Ln S2 then true else Ln O !=Ln O2 then true else Ln M !=Ln M2 then true else Ln X !=Ln X2 then true else Ln Q !=Ln Q2) (false=true) (∃(x:Nat),J8p x S O M X Q S2 O2 M2 X2 Q2 tk st tk2 st2∧x≤List.length S∧∀(x:Nat),x≤List.length S→Br (decide (Nc x<Ln S)) (T2 (Bd (Nc x) (Ln S)) (Tw (Bd (Nc x) (Ln S2)))∧Br (!(Lb (J2t S x) (J2t S2 x)&&((J2u S x).1==(J2u S2 x).1&&((J2u S x).2==(J2u S2 x).2&&true)))) (false=true) (Z14 x∧∃(y:Nat),J8o x y S O M X Q S2 O2 M2 X2 Q2 tk st tk2 st2∧y≤List.length S∧J2s S y x)) (∃(x:Nat),J8p x S O M X Q S2 O2 M2 X2 Q2 tk st tk2 st2∧x≤List.length O∧∀(x:Nat),x≤List.length O→Br (Z98 x O) (T2 (Bd (Nc x) (Ln O)) (Tw (Bd (Nc x) (Ln O2)))∧Br (!(Lb (J0h O x) (J0h O2 x)&&(Lb (J59 O x) (J59 O2 x)&&(Lb (J58 O x) (J58 O2 x)&&(Kz5 O x==Kz5 O2 x&&(Kz9 O x==Kz9 O2 x&&true)&&(J56 O x==J56 O2 x&&(Kz0 O x==Kz0 O2 x&&(Kz1 O x==Kz1 O2 x&&true)))))))) (false=true) (Z14 x∧∃(y:Nat),J8o x y S O M X Q S2 O2 M2 X2 Q2 tk st tk2 st2∧J9i y O x)) (∃(x:Nat),J8p x S O M X Q S2 O2 M2 X2 Q2 tk st tk2 st2∧x≤List.length M∧∀(x:Nat),x≤List.length M→Br (decide (Nc x<Ln M)) (T2 (Bd (Nc x) (Ln M)) (Tw (Bd (Nc x) (Ln M2)))∧Br (!(Lb (J2l M x) (J2l M2 x)&&(J2j M x==J2j M2 x&&((J0p M x).1==(J0p M2 x).1&&((J0p M x).2==(J0p M2 x).2&&true))))) (false=true) (Z14 x∧∃(y:Nat),J8o x y S O M X Q S2 O2 M2 X2 Q2 tk st tk2 st2∧y≤List.length M∧J2r M y x)) (∃(x:Nat),J8p x S O M X Q S2 O2 M2 X2 Q2 tk st tk2 st2∧x≤List.length X∧∀(x:Nat),x≤List.length X→Br (Z92 x X) (T2 (Bd (Nc x) (Ln X)) (Z78 x X2)∧Br (!(Lb (Jro X x) (Jro X2 x)&&(Lb (J0m X x) (J0m X2 x)&&((Jwr X x).1==(Jwr X2 x).1&&(Kft X x==Kft X2 x&&true)&&(J0l X x==J0l X2 x&&true))))) (false=true) (Z14 x∧∃(y:Nat),J8o x y S O M X Q S2 O2 M2 X2 Q2 tk st tk2 st2∧Jwn y X x)) (∃(x:Nat),J8p x S O M X Q S2 O2 M2 X2 Q2 tk st tk2 st2∧x≤List.length Q∧∀(x:Nat),x≤List.length Q→Br (Z99 x Q) (T2 (Bd (Nc x) (Ln Q)) (Z77 x Q2)∧Br (!(Lb (Jx0 Q x) (Jx0 Q2 x)&&(Lb (Kad Q x) (Kad Q2 x)&&((Jwt Q x).2==(Jwt Q2 x).2&&true)))) (false=true) (Z14 x∧∃(y:Nat),J8o x y S O M X Q S2 O2 M2 X2 Q2 tk st tk2 st2∧J0i y Q x)) (true=true)))))))=_).mp ?_
 delta Z12 Z14 Z42 Z43 Z44 Z46 Z57 Z60 Z66 Z77 Z78 Z91 Z92 Z98 Z99 Jwt Jsh Jx0 Kad Jcw J2u J2t J2s Jws Jse J2r J6p J2l J0p J2j Jxt Jro J0m Jwr J0l Kft Jdh J9i J0i Jwn J6a J0h J9e J9c J59 J58 J9b J57 J9a Kz9 J56 J55 Kz5 Kz1 Kz0 J8p J8o Br Iw Bd T2 Tw Sf Si Ln Nc B0 Lb
 intro h hS hO hM hX hQ
 cases h
 refine⟨fun h=>absurd h (by simp),fun _=> ?_⟩
 refine⟨(0:Nat),by(repeat' first|exact rfl|exact⟨⟩|apply And.intro|omega|dsimp only;omega),Nat.zero_le _,fun(k:Nat) hk=>⟨fun h=> ?_,fun _=> ?_⟩⟩
 ·have h:k<S.length:=by simpa using h
  refine⟨?_,fun h2=>absurd h2 (by simp),fun _=>⟨?_,(k+1:Nat),by(repeat' first|exact rfl|exact⟨⟩|apply And.intro|omega|dsimp only;omega),by omega,by omega⟩⟩<;>(repeat' first|exact rfl|exact⟨⟩|apply And.intro|omega|dsimp only;omega)
 refine⟨(0:Nat),by(repeat' first|exact rfl|exact⟨⟩|apply And.intro|omega|dsimp only;omega),Nat.zero_le _,fun(k:Nat) hk=>⟨fun h=> ?_,fun _=> ?_⟩⟩
 ·have h:k<O.length:=by simpa using h
  refine⟨?_,fun h2=>absurd h2 (by simp),fun _=>⟨?_,(k+1:Nat),by(repeat' first|exact rfl|exact⟨⟩|apply And.intro|omega|dsimp only;omega),by omega,by omega⟩⟩<;>(repeat' first|exact rfl|exact⟨⟩|apply And.intro|omega|dsimp only;omega)
 refine⟨(0:Nat),by(repeat' first|exact rfl|exact⟨⟩|apply And.intro|omega|dsimp only;omega),Nat.zero_le _,fun(k:Nat) hk=>⟨fun h=> ?_,fun _=> ?_⟩⟩
 ·have h:k<M.length:=by simpa using h
  refine⟨?_,fun h2=>absurd h2 (by simp),fun _=>⟨?_,(k+1:Nat),by(repeat' first|exact rfl|exact⟨⟩|apply And.intro|omega|dsimp only;omega),by omega,by omega⟩⟩<;>(repeat' first|exact rfl|exact⟨⟩|apply And.intro|omega|dsimp only;omega)
 refine⟨(0:Nat),by(repeat' first|exact rfl|exact⟨⟩|apply And.intro|omega|dsimp only;omega),Nat.zero_le _,fun(k:Nat) hk=>⟨fun h=> ?_,fun _=> ?_⟩⟩
 ·have h:k<X.length:=by simpa using h
  refine⟨?_,fun h2=>absurd h2 (by simp),fun _=>⟨?_,(k+1:Nat),by(repeat' first|exact rfl|exact⟨⟩|apply And.intro|omega|dsimp only;omega),by omega,by omega⟩⟩<;>(repeat' first|exact rfl|exact⟨⟩|apply And.intro|omega|dsimp only;omega)
 refine⟨(0:Nat),by(repeat' first|exact rfl|exact⟨⟩|apply And.intro|omega|dsimp only;omega),Nat.zero_le _,fun(k:Nat) hk=>⟨fun h=> ?_,fun _=> ?_⟩⟩
 ·have h:k<Q.length:=by simpa using h
  refine⟨?_,fun h2=>absurd h2 (by simp),fun _=>⟨?_,(k+1:Nat),by(repeat' first|exact rfl|exact⟨⟩|apply And.intro|omega|dsimp only;omega),by omega,by omega⟩⟩<;>(repeat' first|exact rfl|exact⟨⟩|apply And.intro|omega|dsimp only;omega)
 rfl
abbrev K1z:=K10.add K4z
theorem Jgp {Pr:J2→Prop} (h0:Pr Vt) (hs:∀h e,Vp h→h.1.length<1000→Pr h→Ko h e=0→Pr (Zb h e)) (l:List Ev):Pr (Ja l).1:=by
 have go:∀(l:List Ev) (h:J2),Vp h→Pr h→h.1.length+l.length≤1000→Pr (X7 h l).1:=by
  intro l
  induction l with
  |nil=>intro h _ hp _;exact hp
  | cons e l ih =>
   intro h hi hp hl
   unfold X7
   simp only[List.length_cons] at hl
   by_cases ha:Ko h e=0
   ·rw[if_pos ha]
    exact ih _ (Di hi (by omega) ha) (hs h e hi (by omega) hp ha) (by rw[Xi];omega)
   ·rw[if_neg ha];exact hp
 unfold Ja
 by_cases h:1000<l.length
 ·rw[if_pos h];exact h0
 ·rw[if_neg h];exact go l _ Vh h0 (by show 0+l.length≤1000;omega)
theorem Jyo {l:List Ev}:Jlt (Ja l).1:=Jgp Jer (fun _ _ _ _ hp ha=>Jnv hp ha) l
def Jjk (C:List Ev) (G:List Reg) (k:Nat):Prop:=Jc (C.getD k ev0)=0∧((C.getD k ev0).2.1.toList==Js.toList)=false∧Vd (J4 (G.take k)) (C.getD k ev0)=0∧G.getD k K5=Jn (J4 (G.take k)) (C.getD k ev0)
def J8f (h:J2):Prop:=∀k,k<h.2.2.length→Jjk h.2.1 h.2.2 k
theorem Jqm {α:Type} {l:List α} {m k:Nat} (h:k≤m):(l.take m).take k=l.take k:=by rw[List.take_take,Nat.min_eq_left h]
theorem Krk {h:J2} {e:Ev} (hi:Vp h) (hC:J8f h) (ha:Ko h e=0):J8f (Zb h e):=by
 obtain⟨hc,hacc⟩:=add_zero ha
 have n3:=hi.ok.nG
 obtain⟨E,C,G⟩:=h
 dsimp only at n3
 cases hk:e.2.1.toList==Js.toList with
 |true=>
  unfold Zb
  rw[hk,cond_true]
  intro k h3
  simp only[List.length_take] at h3
  dsimp only
  have:=hC k (by dsimp only;omega)
  unfold Jjk at this⊢
  rw[Da (by omega),Da (by omega),Jqm (by omega)]
  exact this
 | false =>
  have hE:e.1=(E.length:Int)+1:=by
   obtain⟨n,k,ns,vs,tx⟩:=e
   exact(Dk ((Yl (h:=(E,C,G)) (n:=n) (k:=k) (ns:=ns) (vs:=vs) (tx:=tx) hk).symm.trans hacc)).1
  have hA:Vd (J4 G) e=0:=(Jwj (h:=(E,C,G)) hE hk).symm.trans hacc
  unfold Zb
  rw[hk,cond_false]
  intro k h3
  simp only[List.length_append,List.length_singleton] at h3
  dsimp only
  unfold Jjk
  by_cases hkn:k<G.length
  ·have:=hC k hkn
   unfold Jjk at this
   rw[Jam hkn,Jam (by omega),List.take_append_of_le_length (by omega)]
   exact this
  ·have ek:k=G.length:=by omega
   rw[ek,Jal,List.take_left']
   ·rw[n3,Jal]
    exact⟨hc,hk,hA,rfl⟩
   ·rfl
theorem Jyp {l:List Ev}:J8f (Ja l).1:=Jgp (fun _ h=>(by cases h)) (fun _ _ hi _ hp ha=>Krk hi hp ha) l
theorem Jdv {e:Ev} {l:List Ev} {h:J2}:X7 h (e::l)=if Ko h e=0 then X7 (Zb h e) l else(h,h.1.length+1,Ko h e):=rfl
theorem Jog:∀{l m:List Ev} {h:J2},(X7 h l).2.2=0→X7 h (l++m)=X7 (X7 h l).1 m
 |[],_,_,_=>rfl
 | e :: l, m, h, h0 => by
  rw[List.cons_append]
  by_cases ha:Ko h e=0
  ·simp only[Jdv,if_pos ha] at h0⊢
   exact Jog h0
  ·rw[Jdv,if_neg ha] at h0;exact absurd h0 ha
theorem Jmq {l:List Ev} {e:Ev} (h:(Ja l).2.2=0) (hl:l.length<1000):(Ja (l++[e])).2.2=Ko (Ja l).1 e:=by
 have e1:Ja l=X7 Vt l:=by unfold Ja;rw[if_neg (by omega)]
 have e2:Ja (l++[e])=X7 Vt (l++[e]):=by unfold Ja;rw[if_neg (by rw[List.length_append,List.length_singleton];omega)]
 rw[e1] at h⊢
 rw[e2,Jog h,Jdv]
 by_cases ha:Ko (X7 Vt l).1 e=0
 ·rw[if_pos ha];exact ha.symm
 ·rw[if_neg ha]
theorem J5t {l:List Ev} {e:Ev} (h:(Ja l).2.2=0) (hc:Jc e=0) (hl:l.length<1000):(Ja (l++[e])).2.2=Jg9 l e:=by
 have h0:Jlz l e=0:=by
  unfold Jlz
  rw[h,hc,decide_eq_false (by omega)]
  rfl
 rw[Jmq h hl]
 unfold Jg9
 rw[if_pos h0]
 unfold Ko
 rw[if_neg (by rw[hc];simp)]
theorem Jy8 {l:List Ev} {e:Ev} (hl:lOk l) (hz:Jao e) (h:l.length<1000):lOk (l++[e]):=by
 refine⟨by rw[List.length_append,List.length_singleton];omega,fun x hx=> ?_⟩
 rcases Vz hx with hx|hx
 ·exact hl.2 x hx
 ·subst hx;exact hz
def Kcq:Con:={args:=[.val false (.list 67 sEv),aEv],ress:=[I],owns:=[],pre:=fun(l,e,_)=>[lOk l,Jao e],spec:=fun(l,e,_)=>(Jg9 l e,())}
def Kkz (a:List Ev):=(Ja a).2.2 !=0
def Kty (a:List Ev) (b:Int) (c:Bt) (d:Ls) (e:Li) (f:Bt):=Br (decide (1000≤Ln a)) (5=Jg9 a (b,c,d,e,f)) (((0+List.length a)*88≤140737488355328∧Jb1 a∧lOk (a++[(b,c,d,e,f)]))∧(Ja (a++[(b,c,d,e,f)])).2.2=Jg9 a (b,c,d,e,f))
theorem K4w:Ok Tryz.prog 58 Kcq:=okW K1z Tryz.f58 na fun xx=>by
 obtain⟨(l:List Ev),⟨(n:Int),(k:ByteArray),(ns:List ByteArray),(vs:List Int),(tx:ByteArray)⟩,_⟩:=xx
 refine(by kernel_rfl:(lOk l→Jao (n,k,ns,vs,tx)→lOk l∧Br ((Ja l).2.2==0) (Jcn ns vs∧Br (Z63 n k ns vs tx !=0) (Z63 n k ns vs tx=Jg9 l (n,k,ns,vs,tx)) (Kty l n k ns vs tx)) (Br (Kkz l) ((Ja l).2.2=Jg9 l (n,k,ns,vs,tx)) (Kty l n k ns vs tx)))=_).mp ?_
 delta Z56 Z63 Dl Jb1 Jdi Kkz Jco Jcn Kty Br Ln
 intro hl hz
 have no:∀v,Jlz l (n,k,ns,vs,tx)=v→v≠0→v=Jg9 l (n,k,ns,vs,tx):=fun v h h2=>by
  unfold Jg9
  rw[if_neg (by rw[h];exact h2),h]
 refine⟨hl,fun h=>⟨hz,fun h2=> ?_,fun h2=>⟨fun h3=> ?_,fun h3=> ?_⟩⟩,fun h=>⟨fun h2=> ?_,fun h2=>absurd (bne_eq_false_iff_eq.1 h2) (by simpa using h)⟩⟩
 ·have h2:=bne_iff_ne.1 h2
  refine no _ ?_ h2
  unfold Jlz
  rw[show(Ja l).2.2=0 by simpa using h,Je,if_pos rfl,Je,if_neg h2]
 ·refine no _ ?_ (by decide)
  unfold Jlz
  rw[show(Ja l).2.2=0 by simpa using h,bne_eq_false_iff_eq.1 h2,h3]
  rfl
 ·have h3:=of_decide_eq_false h3
  exact⟨⟨by omega,by omega,Jy8 hl hz (by omega)⟩,J5t (by simpa using h) (bne_eq_false_iff_eq.1 h2) (by omega)⟩
 ·have h2:=bne_iff_ne.1 h2
  refine no _ ?_ h2
  unfold Jlz
  rw[Je,if_neg h2]
abbrev K1y:=K1z.add K4w
theorem Joo {G:List Reg} {k:Nat} (h:k<G.length):J4 (G.take (k+1))=G.getD k K5:=by
 unfold J4
 have:(G.take (k+1)).length=k+1:=by rw[List.length_take];omega
 rw[this,Nat.add_sub_cancel,Da (by omega)]
theorem Kaj {e:Ev} (hc:Jc e=0) (hk:(e.2.1.toList==Js.toList)=false):0<e.2.2.2.1.length:=by
 have hE:=K9 hc
 have hv:=hE.nv
 rcases U3 hE.kind with h|h|h|h|h|h|h|h|h|h|h<;>rw[h] at hv hk
 ·rw[Jia] at hk;cases hk
 all_goals first|(simp only[Ky] at hv;omega)|(simp only[U6] at hv;omega)|(simp only[Uo] at hv;omega)|(simp only[Up] at hv;omega)|(simp only[Vf] at hv;omega)|(simp only[Kq] at hv;omega)|(simp only[Ke] at hv;omega)|(simp only[Kt] at hv;omega)|(simp only[Ks] at hv;omega)|(simp only[Um] at hv;omega)
theorem Kc8 {r:Reg} {e:Ev} (h:Vd r e=0):r.1≤e.2.2.2.1.getD 0 0:=by
 unfold Vd at h
 cases q:decide (e.2.2.2.1.getD 0 0<r.1) with
 |true=>rw[q] at h;cases h
 |false=>have:=of_decide_eq_false q;omega
structure K7m (h:J2) (k:Nat):Prop where
 ok:Jj (J4 (h.2.2.take k))
 uni:Ja6 (J4 (h.2.2.take k)).2.2.2.2.2.1
 met:(J4 (h.2.2.take k)).2.2.2.2.1.length<10000
theorem Kmp {l:List Ev} {k:Nat} (hk:k≤(Ja l).1.2.2.length):K7m (Ja l).1 k:=by
 have hi:=L8 (l:=l)
 cases k with
 |zero=>exact⟨Yq Vh.ok,Jmy Jer,show(0:Nat)<10000 by decide⟩
 |succ k=>
  have hm:=Jd (d:=K5) (show k<(Ja l).1.2.2.length by omega)
  have e:=Joo (G:=(Ja l).1.2.2) (k:=k) (by omega)
  have h1:=hi.met _ hm
  have h2:=hi.ok.nE
  exact⟨e▸hi.ok.reg _ hm,e▸Jyo _ hm,by rw[e];omega⟩
def J41:Con:={args:=[.val false (.list 67 sEv),aI],ress:=[(true,Jdu),I],owns:=[],pre:=fun(l,_)=>[lOk l],spec:=fun(l,t,_)=>(Xs l t,Yk l t,())}
abbrev Kre (l:List Ev) (t:Int):Ann:={X:=Nat×Reg,σ:=fun(k,r)=>⟨15,[(1, .one (.int .i64 t)),(4, .one (.ptr 1 0)),(6, .one (.sl 2)),(10, .one (.ptr 9 0)),(11, .one (.int .i64 k))],[(1, .box 37 Jjo),(2, .imm 67 sEv (H4 l)),(9, .box 37 [.int .i64 r.1, .int .i64 r.2.1, .sl 10, .sl 11, .sl 12, .sl 13, .sl 14]),(10, .imm 114 Xh r.2.2.1),(11, .imm 119 Yt r.2.2.2.1),(12, .imm 121 Xw r.2.2.2.2.1),(13, .imm 123 V5 r.2.2.2.2.2.1),(14, .imm 125 Ys r.2.2.2.2.2.2)]⟩,inv:=fun(k,r)=>k≤(H4 l).length∧Ly ((Ja l).1.2.2.drop k) t r=Ly (Ja l).1.2.2 t K5∧(r=J4 ((Ja l).1.2.2.take k)∨t<(J4 ((Ja l).1.2.2.take k)).1),mu:=fun(k,_)=>(H4 l).length-k}
def K0v (a:List Ev) (b:Nat×Reg):=(List.getD (H4 a) b.1 Lz).2
def K0u (a:List Ev) (b:Nat×Reg):=(K0v a b).2
def K0t (a:List Ev) (b:Nat×Reg):=(K0v a b).1
def K0o (a:List Ev) (b:Nat×Reg):=(K0u a b).2
def K0m (a:List Ev) (b:Nat×Reg):=(K0o a b).1
def Kjv (a:Nat×Reg):=(a.2.1,a.2.2.1,a.2.2.2.1,a.2.2.2.2.1,a.2.2.2.2.2.1,E2 a.2.2.2.2.2.2)
def Khe (a:Nat×Reg) (b:List Ev) (c:Int):=a.1≤List.length (H4 b)∧Ly (List.drop a.1 (Ja b).1.2.2) c a.2=Ly (Ja b).1.2.2 c K5∧(a.2=J4 (List.take a.1 (Ja b).1.2.2)∨c<(J4 (List.take a.1 (Ja b).1.2.2)).1)
def Kt6 (a:Nat×Reg) (b:List Ev) (c:Int) (d:Nat×Reg):=Khe a b c∧List.length (H4 b)-a.1<List.length (H4 b)-d.1
def Ktn (a:List Ev) (b:Nat×Reg):=((List.getD (H4 a) b.1 Lz).1,K0t a b,(K0u a b).1,E2 (K0o a b))
def Ksv (a:Nat×Reg) (b:List Ev):=Ye (Kjv a) (Ktn b a)
def Ksu (a:Nat×Reg) (b:List Ev):=(Ksv a b).2
def Kst (a:Nat×Reg) (b:List Ev):=(Ksu a b).2
def Kss (a:Nat×Reg) (b:List Ev):=(Kst a b).2
def Ksr (a:Nat×Reg) (b:List Ev):=(Kss a b).2
def Ksq (a:Nat×Reg) (b:List Ev):=(Ksr a b).2
theorem K4t:Ok Tryz.prog 63 J41:=okW K1y Tryz.f63 (fun xx=>X3 (Kre xx.1 xx.2.1)) fun xx=>by
 obtain⟨(l:List Ev),(t:Int),_⟩:=xx
 refine(by kernel_rfl:(lOk l→lOk l∧Br (Kkz l) (J54 l t∧(Ja l).2.2=Yk l t) (Br (Yw t 0 999999999) (J54 l t∧3=Yk l t) (∃(x:Nat×Reg),Si t (0=Nc x.1∧Si 0 (Si 0 (Sf Jo (Sf Jo (Sf Jo (Sf Jo (Sf Jo (Sf (H4 l) (0=x.2.1∧0=x.2.2.1∧List.length x.2.2.2.1=0∧List.length x.2.2.2.2.1=0∧List.length x.2.2.2.2.2.1=0∧List.length x.2.2.2.2.2.2.1=0∧List.length x.2.2.2.2.2.2.2=0)))))))))∧Khe x l t∧∀(x:Nat×Reg),Khe x l t→Br (decide (Nc x.1<Ln (H4 l))) (T2 (Bd (Nc x.1) (Ln (H4 l))) (Tw (Bd 0 (Ln (K0m l x))))∧Br (decide (List.getD (K0m l x) 0 0≤t)) (T2 (Bd (Nc x.1) (Ln (H4 l))) (Jj (Kjv x)∧Ja6 x.2.2.2.2.2.2.1∧List.length x.2.2.2.2.2.1<10000∧Jc (Ktn l x)=0∧Lb (K0t l x) Js=false)∧Iw (Nc x.1+1)∧∃(y:Nat×Reg),Si t (Nc x.1+1=Nc y.1∧Si 0 (Si 0 (Sf Jo (Sf Jo (Sf Jo (Sf Jo (Sf Jo (Sf (H4 l) ((Ksv x l).1=y.2.1∧(Ksu x l).1=y.2.2.1∧(Kst x l).1=y.2.2.2.1∧(Kss x l).1=y.2.2.2.2.1∧(Ksr x l).1=y.2.2.2.2.2.1∧(Ksq x l).1=y.2.2.2.2.2.2.1∧(Ksq x l).2=y.2.2.2.2.2.2.2)))))))))∧Kt6 y l t x) (Iw (Nc x.1+1)∧∃(y:Nat×Reg),Si t (Nc x.1+1=Nc y.1∧Si 0 (Si 0 (Sf Jo (Sf Jo (Sf Jo (Sf Jo (Sf Jo (Sf (H4 l) (x.2.1=y.2.1∧x.2.2.1=y.2.2.1∧x.2.2.2.1=y.2.2.2.1∧x.2.2.2.2.1=y.2.2.2.2.1∧x.2.2.2.2.2.1=y.2.2.2.2.2.1∧x.2.2.2.2.2.2.1=y.2.2.2.2.2.2.1∧x.2.2.2.2.2.2.2=y.2.2.2.2.2.2.2)))))))))∧Kt6 y l t x)) (Kjv x=Xs l t∧0=Yk l t))))=_).mp ?_
 delta Jo Lz Lj Kkz K0v K0u K0t K0o Vj K0m J54 Kjv Khe Kt6 Ktn Ksv Ksu Kst Kss Ksr Ksq Br Iw Bd T2 Tw Sf Si Ln Nc B0 Lb E2 Js
 intro hl
 have hrg:((0:Int),(0:Int),([]:List Sta),([]:List Ord),([]:List Met),([]:List Out),([]:List Per))=K5:=rfl
 have hev:((0:Int),({data:={toList:=[]}}:ByteArray),([]:List ByteArray),([]:List Int),({data:={toList:=[]}}:ByteArray))=ev0:=rfl
 simp only[hrg,hev]
 have no:∀v,Yk l t=v→v≠0→K5=Xs l t∧v=Yk l t:=fun v h h2=>⟨by unfold Xs;rw[if_neg (by rw[h];exact h2)],h.symm⟩
 refine⟨hl,fun h=> ?_,fun h=>⟨fun h2=> ?_,fun h2=> ?_⟩⟩
 ·have h:=bne_iff_ne.1 h
  exact no _ (by unfold Yk;rw[Je,if_neg h]) h
 ·have h:=bne_eq_false_iff_eq.1 h
  exact no 3 (by unfold Yk;rw[h,Xp,h2];rfl) (by decide)
 have h0:=bne_eq_false_iff_eq.1 h
 have hE:Yk l t=0:=by unfold Yk;rw[h0,Xp,h2];rfl
 have hC:H4 l=(Ja l).1.2.1:=by unfold H4;rw[if_pos h0]
 have hi:=L8 (l:=l)
 have hG:=hi.ok.nG
 have hcl:=J4d (l:=l)
 rw[←hC] at hG
 refine⟨((0:Nat),K5),by(repeat' first|exact rfl|exact⟨⟩|apply And.intro|omega|dsimp only;omega),⟨Nat.zero_le _,rfl, .inl rfl⟩,fun(x:Nat×Reg) hx=>⟨fun h3=> ?_,fun h3=> ?_⟩⟩
 ·obtain⟨k,r⟩:=x
  obtain⟨k1,k2,k3⟩:=hx
  dsimp only at k1 k2 k3
  have hlt:k<(H4 l).length:=by simpa using h3
  obtain⟨c1,c2,c3,c4⟩:=Jyp (l:=l) k (by omega)
  rw[←hC] at c1 c2 c3 c4
  have hp:=Kmp (l:=l) (k:=k) (by omega)
  have hv:=Kaj c1 c2
  have hle:=Kc8 c3
  have hn:=Joo (G:=(Ja l).1.2.2) (k:=k) (by omega)
  have ht:((Ja l).1.2.2.getD k K5).1=((H4 l).getD k ev0).2.2.2.1.getD 0 0:=by rw[c4];rfl
  rw[Jp (d:=K5) (by omega),Ly,ht] at k2
  dsimp only
  generalize(H4 l).getD k ev0=e at*
  refine⟨⟨by(repeat' first|exact rfl|exact⟨⟩|apply And.intro|omega|dsimp only;omega),by omega,by omega,by omega⟩,fun h4=> ?_,fun h4=> ?_⟩
  ·have h5:=of_decide_eq_true h4
   have hr:r=J4 ((Ja l).1.2.2.take k):=by
    rcases k3 with k3|k3
    ·exact k3
    ·omega
   subst hr
   rw[h4,cond_true] at k2
   refine⟨⟨by(repeat' first|exact rfl|exact⟨⟩|apply And.intro|omega|dsimp only;omega),by(repeat' first|exact rfl|exact⟨⟩|apply And.intro|omega|dsimp only;omega),hp.ok,hp.uni,hp.met,c1,c2⟩,by(repeat' first|exact rfl|exact⟨⟩|apply And.intro|omega|dsimp only;omega),(k+1,Ye (J4 ((Ja l).1.2.2.take k)) e),by(repeat' first|exact rfl|exact⟨⟩|apply And.intro|omega|dsimp only;omega),⟨hlt, ?_, .inl ?_⟩,by show(H4 l).length-(k+1)<(H4 l).length-k;omega⟩
   ·rw[Jjh c3,←c4];exact k2
   ·rw[Jjh c3,←c4];exact hn.symm
  ·have h5:=of_decide_eq_false h4
   rw[h4,cond_false] at k2
   exact⟨by(repeat' first|exact rfl|exact⟨⟩|apply And.intro|omega|dsimp only;omega),(k+1,r),by(repeat' first|exact rfl|exact⟨⟩|apply And.intro|omega|dsimp only;omega),⟨hlt,k2, .inr (by rw[hn,ht];omega)⟩,by show(H4 l).length-(k+1)<(H4 l).length-k;omega⟩
 ·obtain⟨k,r⟩:=x
  obtain⟨k1,k2,k3⟩:=hx
  dsimp only at k1 k2 k3 h3⊢
  have hlt:¬k<(H4 l).length:=by simpa using h3
  rw[List.drop_eq_nil_of_le (by omega),Ly] at k2
  refine⟨?_,hE.symm⟩
  unfold Xs
  rw[if_pos hE]
  exact k2
abbrev K6e:=K1y.add K4t
abbrev K6d:=K6e
end Go.Proofs.YtcibbcfiemeoiaaGreatDoor

/- Contracts of the functions that the law reaches: part of the proof. -/
import Derived.Test.YtcibbcfiemeoiaaGreatDoorFB
set_option linter.unusedSimpArgs false
set_option linter.unusedVariables false
set_option maxRecDepth 20000
namespace Go.Proofs.YtcibbcfiemeoiaaGreatDoor
open Go.Sx
set_option maxHeartbeats 20000000
def avL (st:Int):List Spn→Int×Int→Int×Int
 |[],a=>a
 |s::l,(n,last)=>avL st l (n-max 0 (min s.2 st-max s.1 last),max last (min s.2 st))
theorem J7f {st:Int} {a b:Spn} {l:List Spn} {p:Int×Int} (h:a.1=b.1):avL st (a::b::l) p=avL st (b::a::l) p:=by
 obtain⟨n,last⟩:=p
 simp only[avL]
 congr 1
 refine Prod.ext ?_ ?_<;>dsimp only<;>omega
theorem Jrv {st:Int} {x:Spn} {bs:List Spn}:∀{us:List Spn} {p:Int×Int},(∀y∈us,y.1=x.1)→avL st (us++x::bs) p=avL st (x::(us++bs)) p
 |[],_,_=>rfl
 | y :: us, (n, last), h => by
  have h1:=Jrv (st:=st) (x:=x) (bs:=bs) (us:=us) (p:=(n-max 0 (min y.2 st-max y.1 last),max last (min y.2 st))) fun z hz=>h z (List.mem_cons_of_mem _ hz)
  have e:avL st (y::(us++x::bs)) (n,last)=avL st (y::x::(us++bs)) (n,last):=by
   simp only[avL] at h1⊢
   exact h1
  rw[List.cons_append,e,J7f (h y (List.mem_cons_self ..)),List.cons_append]
theorem Jyh {st:Int}:∀{xs ys:List Spn} {p:Int×Int},ys.Perm xs→(xs.Pairwise fun a b=>a.1≤b.1)→(ys.Pairwise fun a b=>a.1≤b.1)→avL st ys p=avL st xs p
 |[],ys,p,h,_,_=>by rw[List.Perm.eq_nil h]
 | x :: xs, ys, (n, last), h, h1, h2 => by
  have hx:x∈ys:=h.mem_iff.2 (List.mem_cons_self ..)
  obtain⟨us,bs,rfl⟩:=List.append_of_mem hx
  have h1:=List.pairwise_cons.1 h1
  have h2':=List.pairwise_append.1 h2
  have hk:∀y∈us,y.1=x.1:=fun y hy=>by
   have a1:=h2'.2.2 y hy x (List.mem_cons_self ..)
   have:y∈x::xs:=h.mem_iff.1 (List.mem_append_left _ hy)
   rcases List.mem_cons.1 this with rfl|hm
   ·rfl
   ·have:=h1.1 y hm
    omega
  rw[Jrv hk]
  have hp:(us++bs).Perm xs:=((List.perm_middle (a:=x) (l₁:=us) (l₂:=bs)).symm.trans h).cons_inv
  have hs:(us++bs).Pairwise fun a b=>a.1≤b.1:=List.Pairwise.sublist (List.Sublist.append (List.Sublist.refl _) (List.sublist_cons_self ..)) h2
  show avL st (us++bs) _=avL st xs _
  exact Jyh hp h1.2 hs
def J6a (x:Spn):List Spn→List Spn
 |[]=>[x]
 |y::r=>if x.1≤y.1 then x::y::r else y::J6a x r
def J0r:List Spn→List Spn
 |[]=>[]
 |x::r=>J6a x (J0r r)
theorem Jfu (x:Spn):∀l,(J6a x l).Perm (x::l)
 |[]=> .refl _
 |y::r=>by
  simp only[J6a]
  split
  ·exact .refl _
  ·exact((Jfu x r).cons y).trans (.swap x y r)
theorem Jht:∀l,(J0r l).Perm l
 |[]=> .refl _
 |x::r=>(Jfu x _).trans ((Jht r).cons x)
theorem Jft {x:Spn}:∀{l:List Spn},(l.Pairwise fun a b=>a.1≤b.1)→(J6a x l).Pairwise fun a b=>a.1≤b.1
 |[],_=>by simp[J6a]
 | y :: r, h => by
  have h0:=List.pairwise_cons.1 h
  simp only[J6a]
  split
  ·rename_i hlt
   refine List.pairwise_cons.2 ⟨fun z hz=> ?_,h⟩
   rcases List.mem_cons.1 hz with rfl|hz
   ·exact hlt
   ·exact Int.le_trans hlt (h0.1 z hz)
  ·rename_i hlt
   refine List.pairwise_cons.2 ⟨fun z hz=> ?_,Jft h0.2⟩
   rcases List.mem_cons.1 ((Jfu x r).mem_iff.1 hz) with rfl|hz
   ·omega
   ·exact h0.1 z hz
theorem Jc3:∀{l:List Spn},(J0r l).Pairwise fun a b=>a.1≤b.1
 |[]=> .nil
 |x::r=>Jft Jc3
def Jl9 (X:List Out) (s:ByteArray):List Spn:=(X.filter fun x=>x.2.1.toList==s.toList).map fun x=>x.2.2.1
def avN (st:Int) (X:List Out) (s:ByteArray):Int:=(avL st (J0r (Jl9 X s)) (st,0)).1
def avE (l:List Ev) (s:ByteArray):Int:=Ji [opE l [s],bif (Jc l).2.1==0 then 6 else 0]
def avP (l:List Ev) (s:ByteArray):Int×Int:=if avE l s=0 then Jqy (avN (Jc l).2.1 (Jc l).2.2.2.2.2.1 s) (Jc l).2.1 else(0,0)
def Ks9:Con:={args:=[.val false (.list 67 sEv),aS],ress:=[(true,La),I],owns:=[],pre:=fun(l,_)=>[lOk l],spec:=fun(l,s,_)=>(avP l s,avE l s,())}
abbrev Ktl (l:List Ev) (s:ByteArray):Ann:={X:=Nat×Int×Int×List Spn,σ:=fun(k,n,last,ys)=>⟨14,[(4, .one (.ptr 2 0)),(6, .one (.ptr 9 0)),(9, .one (.int .i64 n)),(11, .one (.int .i64 last)),(43, .one (.sl 13)),(44, .one (.int .i64 ys.length)),(45, .one (.int .i64 k))],[(2, .box 54 [.int .i64 0, .int .i64 0]),(9, .box 105 [.int .i64 (Jc l).1, .int .i64 (Jc l).2.1, .sl 4, .sl 5, .sl 6, .sl 7, .sl 8]),(4, .imm 127 Ft (Jc l).2.2.1),(5, .imm 130 Lt (Jc l).2.2.2.1),(6, .imm 155 Jaw (Jc l).2.2.2.2.1),(7, .imm 188 Zw (Jc l).2.2.2.2.2.1),(8, .imm 235 Hw (Jc l).2.2.2.2.2.2),(13, .own 117 La ys)]⟩,inv:=fun(k,n,last,ys)=>k≤ys.length∧J5l (Jl9 (Jc l).2.2.2.2.2.1 s) ys∧(0≤last∧last≤(Jc l).2.1)∧((Jc l).2.1-last≤n∧n≤(Jc l).2.1)∧avL (Jc l).2.1 (ys.drop k) (n,last)=avL (Jc l).2.1 ys ((Jc l).2.1,0),mu:=fun(k,_,_,ys)=>ys.length-k}
def K2i (a:Nat×Int×Int×List Spn) (b:List Ev):=min (List.getD a.2.2.2 a.1 (0,0)).2 (Jc b).2.1
def K1q (a:List Ev) (b:Bt):=Ji [opE a [b],bif (Jc a).2.1==0 then 6 else 0]
def Kk2 (a:Bt) (b:List Ev):=List.filter (fun(x:Out)=>List.beq (ByteArray.toList x.2.1) (ByteArray.toList a)) (Jc b).2.2.2.2.2.1
def Kya (a:Bt) (b:List Ev):=List.map (fun(x:Out)=>x.2.2.1) (Kk2 a b)
def Kxy (a:Nat×Int×Int×List Spn) (b:List Ev):=K2i a b-max (List.getD a.2.2.2 a.1 (0,0)).1 a.2.2.1
def Kw1 (a:Nat×Int×Int×List Spn) (b:List Ev):=a.2.1-max 0 (Kxy a b)
def Kwe (a:Nat×Int×Int×List (Int×Int)) (b:List Ev) (c:Bt):=a.1≤List.length a.2.2.2∧J5l (Jl9 (Jc b).2.2.2.2.2.1 c) a.2.2.2∧(0≤a.2.2.1∧a.2.2.1≤(Jc b).2.1)∧((Jc b).2.1-a.2.2.1≤a.2.1∧a.2.1≤(Jc b).2.1)∧avL (Jc b).2.1 (List.drop a.1 a.2.2.2) (a.2.1,a.2.2.1)=avL (Jc b).2.1 a.2.2.2 ((Jc b).2.1,0)
theorem K65:Ok Tryz.prog 27 Ks9:=Jzr K39 Tryz.f27 (U5 (l:=([]:List (Nat×Func))) (by simp)) (fun xx=>Zn (Ktl xx.1 xx.2.1)) (fun xx=>fun _=>na ()) fun xx=>by
 obtain⟨(l:List Ev),(s:ByteArray),_⟩:=xx
 refine(by kernel_rfl:(lOk l→(lOk l∧1≤1000000)∧2≤1000000∧Br (K1q l s !=0) (Sf true ((0,0)=avP l s∧K1q l s=avE l s)) ((List.length (Jc l).2.2.2.2.2.1≤1000000∧(∀(x:Out),x∈(Jc l).2.2.2.2.2.1→True)∧List.length (Kk2 s l)≤1000000∧∀(x:Out),x∈Kk2 s l→True)∧Kih (Kya s l)∧∀(ys:List (Int×Int)),J5l (Kya s l) ys→∃(x:Nat×Int×Int×List (Int×Int)),((Jc l).2.1=x.2.1∧0=x.2.2.1∧Ln ys=Ln x.2.2.2∧0=Nc x.1∧Si 0 (Si 0 ((Jc l).1=(Jc l).1∧(Jc l).2.1=(Jc l).2.1∧Jnp l∧Jno l∧Jnn l∧Jnm l∧Jnl l∧ys=x.2.2.2)))∧Kwe x l s∧∀(x:Nat×Int×Int×List Spn),x.1≤List.length x.2.2.2∧J5l (Jl9 (Jc l).2.2.2.2.2.1 s) x.2.2.2∧(0≤x.2.2.1∧x.2.2.1≤(Jc l).2.1)∧((Jc l).2.1-x.2.2.1≤x.2.1∧x.2.1≤(Jc l).2.1)∧avL (Jc l).2.1 (List.drop x.1 x.2.2.2) (x.2.1,x.2.2.1)=avL (Jc l).2.1 x.2.2.2 ((Jc l).2.1,0)→Br (decide (Nc x.1<Ln x.2.2.2)) (Tw (Bd (Nc x.1) (Ln x.2.2.2))∧(Iw (Kxy x l)∧Iw (Kw1 x l))∧Iw (Nc x.1+1)∧∃(y:Nat×Int×Int×List (Int×Int)),(Kw1 x l=y.2.1∧max x.2.2.1 (K2i x l)=y.2.2.1∧Ln x.2.2.2=Ln y.2.2.2∧Nc x.1+1=Nc y.1∧Si 0 (Si 0 (Si (Jc l).1 (Si (Jc l).2.1 (Jnp l∧Jno l∧Jnn l∧Jnm l∧Jnl l∧x.2.2.2=y.2.2.2)))))∧Kwe y l s∧List.length y.2.2.2-y.1<List.length x.2.2.2-x.1) (((0≤x.2.1∧x.2.1≤1000000000000)∧1≤(Jc l).2.1∧(Jc l).2.1≤1000000000000)∧Sf true (E2 (Jqy x.2.1 (Jc l).2.1)=avP l s∧0=avE l s))))=_).mp ?_
 delta Jnp Jno Jnn Jnm Jnl K2i K1q Kk2 Kya Kxy Kw1 Kwe Br Iw Bd Tw Sf Si Ln Nc E2
 intro hl
 have hr:=Ly (l:=l)
 have hz:Jl9 (Jc l).2.2.2.2.2.1 s=List.map (fun x=>x.2.2.1) (List.filter (fun x=>x.2.1.toList.beq s.toList) (Jc l).2.2.2.2.2.1):=rfl
 rw[←hz]
 have nX:(Jc l).2.2.2.2.2.1.length≤16:=hr.nX
 have hX:∀x∈Jl9 (Jc l).2.2.2.2.2.1 s,Jnd x:=fun x hx=>by
  obtain⟨y,hy,rfl⟩:=List.mem_map.1 hx
  exact(hr.out y (List.mem_filter.1 hy).1).span
 have hlen:(Jl9 (Jc l).2.2.2.2.2.1 s).length≤16:=by
  unfold Jl9
  rw[List.length_map]
  exact Nat.le_trans (List.length_filter_le _ _) nX
 have hst:=hr.st
 have htk:=hr.tk
 refine⟨⟨hl,Od⟩,Od,fun h=> ?_,fun h=>⟨⟨Nat.le_trans nX Od,fun _ _=>trivial,Nat.le_trans (List.length_filter_le _ _) (Nat.le_trans nX Od),fun _ _=>trivial⟩,⟨fun x hx=> ?_,Oo⟩,fun ys hy=>⟨((0:Nat),(Jc l).2.1,0,ys),Oe,⟨Nat.zero_le _,hy,Om,Om,rfl⟩,fun(x:Nat×Int×Int×List Spn) hk=>⟨fun h1=> ?_,fun h1=> ?_⟩⟩⟩⟩
 ·have h:avE l s≠0:=bne_iff_ne.1 h
  refine⟨rfl, ?_,rfl⟩
  unfold avP;rw[if_neg h]
 ·have:=hX x hx
  have h1:=this.lo
  have h2:=this.mid
  have h3:=this.hi
  omega
 ·obtain⟨k,n,last,ys⟩:=x
  obtain⟨k1,k2,k3,k4,k5⟩:=hk
  have hlt:k<ys.length:=by simpa using h1
  have hx:=hX _ (k2.1.mem_iff.1 (Je (d:=((0:Int),(0:Int))) hlt))
  have x1:=hx.lo
  have x2:=hx.mid
  have x3:=hx.hi
  dsimp only at k1 k2 k3 k4 k5
  rw[J2 (d:=((0:Int),(0:Int))) hlt,avL] at k5
  have hln:ys.length≤16:=by rw[k2.1.length_eq];exact hlen
  dsimp only
  generalize ys.getD k (0,0)=y at x1 x2 x3 k5⊢
  obtain⟨a,b⟩:=y
  dsimp only at x1 x2 x3 k5⊢
  refine⟨Oo,Oo,Oo,(k+1,n-max 0 (min b (Jc l).2.1-max a last),max last (min b (Jc l).2.1),ys),Oe,⟨Om,k2,Om,Om,k5⟩,Om⟩
 ·obtain⟨k,n,last,ys⟩:=x
  obtain⟨k1,k2,k3,k4,k5⟩:=hk
  have hlt:¬k<ys.length:=by simpa using h1
  dsimp only at k1 k2 k3 k4 k5
  have e:k=ys.length:=by omega
  rw[e,List.drop_length,avL] at k5
  have h:avE l s=0:=bne_eq_false_iff_eq.1 h
  have hs:(Jc l).2.1≠0:=fun h0=>by
   have:=(Yo h).2
   rw[h0] at this
   exact absurd this Od
  have e2:avN (Jc l).2.1 (Jc l).2.2.2.2.2.1 s=n:=by
   unfold avN
   rw[Jyh (k2.1.trans (Jht _).symm) Jc3 k2.2] at k5
   rw[←k5]
  refine⟨⟨Om,Oo⟩,rfl, ?_,h.symm⟩
  unfold avP
  rw[if_pos h,e2]
abbrev K38:=K39.add K65
def J10:Con:={args:=[aI],ress:=[tS],owns:=[],pre:=fun(n,_)=>[-(10^17:Int)<n,n<10^18],spec:=fun(n,_)=>(Zg n,())}
def Kmt:=10^18
def K2e (a:Int):=a<Kmt
def Kll:= -10^17
def K07 (a:Int):=Kll<a
theorem Kry:Ok Tryz.prog 117 J10:=okW K38 Tryz.f117 na fun xx=>by
 obtain⟨(n:Int),_⟩:=xx
 refine(by kernel_rfl:(K07 n→K2e n→(17≤18∧K07 n∧K2e n)∧Zg n=Zg n)=_).mp ?_
 delta Kmt K2e Kll K07
 intro h1 h2
 exact⟨⟨Od,h1,h2⟩,rfl⟩
abbrev K37:=K38.add Kry
def Jv3 (s:ByteArray) (j:Nat):ByteArray:=bs (List.replicate j 48++Lib.itoa (Jg9 s))
abbrev J2j (s:ByteArray):Nat→Option Ann:=fun id=>if id=0 then some {X:=Nat×Int,σ:=fun(k,x)=>⟨0,[(0, .one (.str s)),(3, .one (.int .i64 x)),(4, .one (.int .i64 k))],[]⟩,inv:=fun(k,x)=>k≤s.size∧(0≤x∧x<9999721)∧Jud (s.data.toList.drop k) x=Jg9 s,mu:=fun(k,_)=>s.size-k}
 else if id=2 then some {X:=Nat,σ:=fun j=>⟨0,[(5, .one (.str (Jv3 s j)))],[]⟩,inv:=fun j=>j+(Lib.itoa (Jg9 s)).length≤7,mu:=fun j=>7-j} else none
def Knp (a:Nat) (b:Bt):=a+List.length (Lib.itoa (Jg9 b))≤7
theorem K6p:Ok Tryz.prog 67 K3n:=okW K37 Tryz.f67 (fun xx=>J2j xx.1) fun xx=>by
 obtain⟨(s:ByteArray),_⟩:=xx
 refine(by kernel_rfl:(ByteArray.size s≤1000000→∃(x:Nat×Int),Sf s (1=x.2∧0=Nc x.1)∧J74 x s∧∀(x:Nat×Int),J74 x s→Br (decide (Nc x.1<Nc (ByteArray.size s))) (Ki9 x s∧Z42 x∧∃(y:Nat×Int),Sf s (Klh x s y∧Jt9 x y)∧Kj6 y s x) ((Kll<x.2∧x.2<Kmt)∧∃(x_1:Nat),Zg x.2=Jv3 s x_1∧Knp x_1 s∧∀(x:Nat),Knp x s→Br (decide (Nc (ByteArray.size (Jv3 s x))<7)) (Nc (1+ByteArray.size (Jv3 s x))≤9223372036854775807∧∃(y:Nat),ByteArray.mk (Array.mk (48::([]++(Jv3 s x).data.toList)))=Jv3 s y∧Knp y s∧7-y<7-x) (Jv3 s x=Jp3 s)))=_).mp ?_
 delta Z16 Z42 Jt9 Knp Kmt Kms Kll Klh J74 Kj6 Ki9 Br Iw Bd Sf Nc
 intro hs
 refine⟨((0:Nat),(1:Int)),Oe,⟨Nat.zero_le _,Om,rfl⟩,fun(y:Nat×Int) hk=>⟨fun h=> ?_,fun h=> ?_⟩⟩
 ·obtain⟨k,x⟩:=y
  have hlt:k<s.size:=by simpa using h
  obtain⟨k1,k2,k3⟩:=hk
  dsimp only at k1 k2
  rw[D7 hlt,Jud] at k3
  have hb:=Jx4 s k
  refine⟨by(repeat' first|apply And.intro|(first|omega|dsimp only;omega)),by(repeat' first|apply And.intro|(first|omega|dsimp only;omega)),(k+1,(341*x+((s.data.toList.getD k 0).toNat:Int)).tmod 9999721),Oe,⟨Om,⟨Int.tmod_nonneg _ Oo,Int.tmod_lt_of_pos _ Od⟩,k3⟩,Om⟩
 ·obtain⟨k,x⟩:=y
  have hlt:¬k<s.size:=by simpa using h
  obtain⟨k1,k2,k3⟩:=hk
  have e:k=s.size:=by omega
  rw[e,List.drop_eq_nil_of_le (by simp),Jud] at k3
  have k3:x=Jg9 s:=k3
  have hl:=Ji8 s
  dsimp only
  rw[k3]
  have hb:=Jn7 s
  have hsz:∀j,(Jv3 s j).size=j+(Lib.itoa (Jg9 s)).length:=fun j=>by
   unfold Jv3
   rw[Xv,List.length_append,List.length_replicate]
  refine⟨⟨Oo,Oo⟩,(0:Nat),rfl,Oo,fun(j:Nat) hj=>⟨fun h=> ?_,fun h=> ?_⟩⟩
  ·have h:((Jv3 s j).size:Int)<7:=of_decide_eq_true h
   have hz:=hsz j
   refine⟨Oo,j+1,rfl,Oo,Oo⟩
  ·have h:¬((Jv3 s j).size:Int)<7:=of_decide_eq_false h
   have hz:=hsz j
   have:j=7-(Lib.itoa (Jg9 s)).length:=by omega
   rw[this];rfl
abbrev K36:=K37.add K6p
theorem Jmo:∀{l:List (List UInt8)} {b:Nat},(∀x∈l,x.length≤b)→(Lib.join l []).length≤b*l.length
 |[],_,_=>by simp[Lib.join,List.intercalate]
 |[x],b,h=>by
  have:=h x (List.mem_cons_self ..)
  simpa[Lib.join,List.intercalate,List.intersperse] using this
 |x::y::r,b,h=>by
  have ih:=Jmo (l:=y::r) fun z hz=>h z (List.mem_cons_of_mem _ hz)
  have hx:=h x (List.mem_cons_self ..)
  have e:Lib.join (x::y::r) []=x++Lib.join (y::r) []:=by simp[Lib.join,List.intercalate,List.intersperse]
  rw[e,List.length_append,List.length_cons,Nat.mul_add]
  omega
def J63:Con:={args:=[.ref 212 Jjk],ress:=[(false, .list 67 sEv)],owns:=[],pre:=fun(h,_)=>[h.1.length≤1000,∀e∈h.1,Jgc e],spec:=fun(h,_)=>(h.1,())}
theorem K6z:Ok Tryz.prog 41 J63:=okW K36 Tryz.f41 na fun xx=>by
 obtain⟨⟨(E:List Ev),(C:List Ev),(G:List Reg)⟩,_⟩:=xx
 refine(by kernel_rfl:(List.length E≤1000→(∀(e:Ev),J22 E e→Jgc e)→Br false ([]=E) ((Z40 E∧∀(x:Ev),J22 E x→Km2 x)∧List.map (fun(x:Ev)=>x) E=E))=_).mp ?_
 delta Z40 J22 Km2 Br
 intro h1 h2
 refine⟨fun h=>(nomatch h),fun _=>⟨⟨Oo,fun x hx=>⟨(h2 x hx).1,(h2 x hx).2.1⟩⟩,List.map_id' _⟩⟩
abbrev K35:=K36.add K6z
def Ksc (l:List Ev):ByteArray:=V3 (l.map J5n) Ja
def K7r:Con:={args:=[.ref 212 Jjk],ress:=[tS],owns:=[],pre:=fun(h,_)=>[h.1.length≤1000,∀e∈h.1,Dk e],spec:=fun(h,_)=>(Ksc h.1,())}
def Knu (a:List Ev):=List.map (fun(x:Ev)=>J5n x) a
def K2w (a:List Ev):=∀(x:Ev),J22 a x→Dk x
theorem K6y:Ok Tryz.prog 42 K7r:=okW K35 Tryz.f42 na fun xx=>by
 obtain⟨⟨(E:List Ev),(C:List Ev),(G:List Reg)⟩,_⟩:=xx
 refine(by kernel_rfl:(List.length E≤1000→K2w E→Br false (B0=Ksc E) ((Z40 E∧K2w E∧List.length (Knu E)≤1000000∧List.length (Lib.join (List.map (fun(x:ByteArray)=>Z16 x) (Knu E)) [])≤140737488355328)∧V3 (Knu E) B0=Ksc E))=_).mp ?_
 delta Z16 Z40 Knu J22 K2w Br B0
 intro h1 h2
 refine⟨fun h=>(nomatch h),fun _=>⟨⟨Oo,h2,by rw[List.length_map];omega, ?_⟩,rfl⟩⟩
 refine Nat.le_trans (Jmo (b:=2000000) fun z hz=> ?_) ?_
 ·rw[List.map_map] at hz
  obtain⟨e,he,rfl⟩:=List.mem_map.1 hz
  have:=Jvz (h2 e he)
  have:=Jrr (h2 e he)
  show(J5n e).size≤2000000
  omega
 ·rw[List.length_map,List.length_map];omega
abbrev K8u:=K35.add K6y
def Js5:List Say:=[(⟨⟨[115,116,97,116,105,111,110,32,97,32,48,32,49,48]⟩⟩,⟨⟨[100,111,110,101,32,49]⟩⟩,0),(⟨⟨[115,116,97,116,105,111,110,32,98,32,48,32,56]⟩⟩,⟨⟨[100,111,110,101,32,50]⟩⟩,0),(⟨⟨[112,114,105,99,101,32,97,32,48,32,53]⟩⟩,⟨⟨[100,111,110,101,32,51]⟩⟩,0),(⟨⟨[111,114,100,101,114,32,111,49,32,97,32,98,32,49,32,50,32,53,32,54]⟩⟩,⟨⟨[100,111,110,101,32,52]⟩⟩,0),(⟨⟨[111,114,100,101,114,32,111,50,32,98,32,97,32,49,32,50,32,53,32,51]⟩⟩,⟨⟨[]⟩⟩,4),(⟨⟨[111,117,116,97,103,101,32,121,32,98,32,49,32,51,32,52,32,53]⟩⟩,⟨⟨[]⟩⟩,24),(⟨⟨[111,117,116,97,103,101,32,120,32,98,32,49,32,53,32,55,32,48]⟩⟩,⟨⟨[100,111,110,101,32,53]⟩⟩,0),(⟨⟨[112,101,114,109,105,116,32,112,32,120,32,53]⟩⟩,⟨⟨[100,111,110,101,32,54]⟩⟩,0),(⟨⟨[109,105,115,115,105,110,103]⟩⟩,⟨⟨[111,49,32,50,32,111,49,32,51,32,111,49,32,52]⟩⟩,0),(⟨⟨[111,117,116,97,103,101,115]⟩⟩,⟨⟨[120]⟩⟩,0),(⟨⟨[116,114,105,112,32,111,49,32,53]⟩⟩,⟨⟨[]⟩⟩,23),(⟨⟨[109,101,116,101,114,32,111,49,32,53,32,50,32,54,32,54]⟩⟩,⟨⟨[100,111,110,101,32,55]⟩⟩,0),(⟨⟨[109,101,116,101,114,32,111,49,32,53,32,51,32,54,32,53]⟩⟩,⟨⟨[100,111,110,101,32,56]⟩⟩,0),(⟨⟨[115,101,116,116,108,101,32,53,32,53]⟩⟩,⟨⟨[]⟩⟩,32),(⟨⟨[109,101,116,101,114,32,111,49,32,53,32,52,32,52,32,51]⟩⟩,⟨⟨[100,111,110,101,32,57]⟩⟩,0),(⟨⟨[109,105,115,115,105,110,103]⟩⟩,⟨⟨[110,111,110,101]⟩⟩,0),(⟨⟨[115,101,116,116,108,101,32,53,32,54]⟩⟩,⟨⟨[]⟩⟩,14),(⟨⟨[115,101,116,116,108,101,32,53,32,53]⟩⟩,⟨⟨[100,111,110,101,32,49,48]⟩⟩,0),(⟨⟨[117,110,100,111]⟩⟩,⟨⟨[]⟩⟩,21),(⟨⟨[98,105,108,108,32,111,49]⟩⟩,⟨⟨[51,32,49,54,32,49,52,32,55,48,32,49,50]⟩⟩,0),(⟨⟨[98,97,108,97,110,99,101,32,98]⟩⟩,⟨⟨[45,53,56]⟩⟩,0),(⟨⟨[114,97,116,101,32,97]⟩⟩,⟨⟨[53]⟩⟩,0),(⟨⟨[114,101,115,116,111,114,101,32,120,32,54]⟩⟩,⟨⟨[]⟩⟩,32),(⟨⟨[112,101,114,109,105,116,115]⟩⟩,⟨⟨[112]⟩⟩,0),(⟨⟨[114,101,116,117,114,110,32,112,32,54]⟩⟩,⟨⟨[100,111,110,101,32,49,49]⟩⟩,0),(⟨⟨[114,101,115,116,111,114,101,32,120,32,54]⟩⟩,⟨⟨[100,111,110,101,32,49,50]⟩⟩,0),(⟨⟨[115,101,116,116,108,101,32,56,32,56]⟩⟩,⟨⟨[100,111,110,101,32,49,51]⟩⟩,0),(⟨⟨[115,101,116,116,108,101,100]⟩⟩,⟨⟨[56]⟩⟩,0)]
def Fz:List Ev:=[(1,⟨⟨[115,116,97,116,105,111,110]⟩⟩,[⟨⟨[97]⟩⟩],[0,10],⟨⟨[]⟩⟩),(2,⟨⟨[115,116,97,116,105,111,110]⟩⟩,[⟨⟨[98]⟩⟩],[0,8],⟨⟨[]⟩⟩),(3,⟨⟨[112,114,105,99,101]⟩⟩,[⟨⟨[97]⟩⟩],[0,5],⟨⟨[]⟩⟩),(4,⟨⟨[111,114,100,101,114]⟩⟩,[⟨⟨[111,49]⟩⟩,⟨⟨[97]⟩⟩,⟨⟨[98]⟩⟩],[1,2,5,6],⟨⟨[]⟩⟩),(5,⟨⟨[111,117,116,97,103,101]⟩⟩,[⟨⟨[120]⟩⟩,⟨⟨[98]⟩⟩],[1,5,7,0],⟨⟨[]⟩⟩),(6,⟨⟨[112,101,114,109,105,116]⟩⟩,[⟨⟨[112]⟩⟩,⟨⟨[120]⟩⟩],[5],⟨⟨[]⟩⟩),(7,⟨⟨[109,101,116,101,114]⟩⟩,[⟨⟨[111,49]⟩⟩],[5,2,6,6],⟨⟨[]⟩⟩),(8,⟨⟨[109,101,116,101,114]⟩⟩,[⟨⟨[111,49]⟩⟩],[5,3,6,5],⟨⟨[]⟩⟩),(9,⟨⟨[109,101,116,101,114]⟩⟩,[⟨⟨[111,49]⟩⟩],[5,4,4,3],⟨⟨[]⟩⟩),(10,⟨⟨[115,101,116,116,108,101]⟩⟩,[],[5,5],⟨⟨[]⟩⟩),(11,⟨⟨[114,101,116,117,114,110]⟩⟩,[⟨⟨[112]⟩⟩],[6],⟨⟨[]⟩⟩),(12,⟨⟨[114,101,115,116,111,114,101]⟩⟩,[⟨⟨[120]⟩⟩],[6],⟨⟨[]⟩⟩),(13,⟨⟨[115,101,116,116,108,101]⟩⟩,[],[8,8],⟨⟨[]⟩⟩)]
def K3k:List Ev:=(Jef Xt Js5).1.2.1
def K3j:List Reg:=(Jef Xt Js5).1.2.2
theorem Jyo:Jef Xt Js5=((Fz,K3k,K3j),true):=by kernel_rfl
def K7z:X8:={T? :=some 212,s:=Jjk,args:=[.val false (.list 147 Kos)],ress:=[Bo],pre:=fun h (l,_)=>[h=Xt,l=Js5],spec:=fun _ _=>(true,()),post:=fun _ _=>(Fz,K3k,K3j)}
theorem Jvj:Js5.length≤1000000∧∀x∈Js5,x.1.size≤1000000:=by
 refine⟨Od,fun x hx=> ?_⟩
 have:(Js5.all fun x=>decide (x.1.size≤1000000))=true:=by kernel_rfl
 exact of_decide_eq_true (List.all_eq_true.1 this x hx)
theorem J04 {f:FuncId} {c:X8} {p:c.s.T→ATup c.args→List Prop} {sp:c.s.T→ATup c.args→Tup c.ress} {q:c.s.T→ATup c.args→c.s.T} (h1:OkO Tryz.prog f c) (h:∀x y,Ux (p x y)→Ux (c.pre x y)∧sp x y=c.spec x y∧q x y=c.post x y):OkO Tryz.prog f {c with pre:=p,spec:=sp,post:=q}:=
 ⟨h1.1,fun x y M R B w b T cells vals vs hB hMR hg hw hBb hMb hRb hT ho hv hpre ha=>by
  obtain⟨hp,e1,e2⟩:=h x y hpre
  have H:=h1.2 x y M R B w b T cells vals vs hB hMR hg hw hBb hMb hRb hT ho hv hp ha
  dsimp only
  rw[e1,e2]
  exact H⟩
theorem Kov:OkO Tryz.prog 66 J90:=Ul mixed Kny.ok (by kernel_rfl) (by kernel_rfl) (U5 (l:=([]:List (Nat×Func))) (by simp)) (fun xx yy=>Zn (Jyu (xx.1,xx.2.1,xx.2.2) yy.1)) (fun xx yy=>fun _=>na ()) fun T xx yy hT=>by obtain rfl:=hT _ rfl;exact K3c xx.1 xx.2.1 xx.2.2 yy.1
theorem Koy:Ok Tryz.prog 66 (X8.con K7z):=Zd (J04 (c:=J90) Kov fun x y hp=>by
 obtain⟨rfl,e⟩:=hp
 obtain⟨l,_⟩:=y
 have e:l=Js5:=e
 subst e
 exact⟨⟨Xy,J6e,Jvj.1,Jvj.2⟩,by rw[show J90.spec Xt (Js5,())=((Jef Xt Js5).2,()) from rfl,Jyo],by rw[show J90.post Xt (Js5,())=(Jef Xt Js5).1 from rfl,Jyo]⟩)
abbrev K26:=K8u.add Koy
theorem Jrh:Fz.length=13:=by kernel_rfl
theorem Jo3:∀e∈Fz,Jgc e:=fun e he=>by
 have:(Fz.all fun e=>decide (e.2.2.1.length≤1000000)&&decide (e.2.2.2.1.length≤1000000)&&e.2.2.1.all fun s=>decide (s.size≤1000000))=true:=by kernel_rfl
 have h:=List.all_eq_true.1 this e he
 simp only[Bool.and_eq_true] at h
 exact⟨of_decide_eq_true h.1.1,of_decide_eq_true h.1.2,fun s hs=>of_decide_eq_true (List.all_eq_true.1 h.2 s hs)⟩
theorem J6i:∀e∈Fz,Jb e=0:=fun e he=>by
 have:(Fz.all fun e=>Jb e==0)=true:=by kernel_rfl
 exact eq_of_beq (List.all_eq_true.1 this e he)
theorem Jo4 (n:Nat):lOk (Fz.take n):=⟨by have:=Jrh;rw[List.length_take];omega,fun e he=>Jo3 e (List.mem_of_mem_take he)⟩
def J4b:Con:={args:=[],ress:=[Bo],owns:=[],pre:=fun _=>[],spec:=fun _=>(true,())}
def Z78:=Sf true (false=true)
def Z85:=[(32:UInt8),(56:UInt8)]
def Z89:=[(32:UInt8),(53:UInt8)]
def Z99:=[(32:UInt8),(54:UInt8)]
def Knx:=[(32:UInt8),(51:UInt8)]
def Kh1:=ByteArray.mk (Array.mk [98])
def Knt:=ByteArray.mk (Array.mk [97])
def K25:=32::53::Z99
def Kzk:=ByteArray.mk (Array.mk (115::101::116::116::108::101::32::53::Z89))
def Ky5:=ByteArray.mk (Array.mk (114::101::115::116::111::114::101::32::120::Z99))
def Kyg:=Jba (List.take 6 Fz) Knt 3+Jba (List.take 6 Fz) Kh1 5
def Kwo:=Kyg+Jcv Fz Knt Kh1
def Kwj:=Kwo+Jbh Fz 4
def Kwg:=Kwj+(Yl Fz).2
def Kvr:=Kwg+avE (List.take 10 Fz) Kh1
def Kvi:=Kvr+avE Fz Kh1
theorem K5y:wpFG Tryz.prog K26.g (na ()) (fun _=>na ()) (Sx.look ([(65,Tryz.f65)]:List (Nat×Func))) Tryz.f14 J4b ():=by
 refine(by kernel_rfl:((([],[],[])=Xt∧[(ByteArray.mk (Array.mk [115,116,97,116,105,111,110,32,97,32,48,32,49,48]),ByteArray.mk (Array.mk [100,111,110,101,32,49]),0),(ByteArray.mk (Array.mk (115::116::97::116::105::111::110::32::98::32::48::Z85)),ByteArray.mk (Array.mk [100,111,110,101,32,50]),0),(ByteArray.mk (Array.mk (112::114::105::99::101::32::97::32::48::Z89)),ByteArray.mk (Array.mk (100::111::110::101::Knx)),0),(ByteArray.mk (Array.mk (111::114::100::101::114::32::111::49::32::97::32::98::32::49::32::50::K25)),ByteArray.mk (Array.mk [100,111,110,101,32,52]),0),(ByteArray.mk (Array.mk (111::114::100::101::114::32::111::50::32::98::32::97::32::49::32::50::32::53::Knx)),B0,4),(ByteArray.mk (Array.mk (111::117::116::97::103::101::32::121::32::98::32::49::32::51::32::52::Z89)),B0,24),(ByteArray.mk (Array.mk [111,117,116,97,103,101,32,120,32,98,32,49,32,53,32,55,32,48]),ByteArray.mk (Array.mk (100::111::110::101::Z89)),0),(ByteArray.mk (Array.mk (112::101::114::109::105::116::32::112::32::120::Z89)),ByteArray.mk (Array.mk (100::111::110::101::Z99)),0),(Ug,ByteArray.mk (Array.mk [111,49,32,50,32,111,49,32,51,32,111,49,32,52]),0),(Up,ByteArray.mk (Array.mk [120]),0),(ByteArray.mk (Array.mk (116::114::105::112::32::111::49::Z89)),B0,23),(ByteArray.mk (Array.mk (109::101::116::101::114::32::111::49::32::53::32::50::32::54::Z99)),ByteArray.mk (Array.mk [100,111,110,101,32,55]),0),(ByteArray.mk (Array.mk (109::101::116::101::114::32::111::49::32::53::32::51::32::54::Z89)),ByteArray.mk (Array.mk (100::111::110::101::Z85)),0),(Kzk,B0,32),(ByteArray.mk (Array.mk (109::101::116::101::114::32::111::49::32::53::32::52::32::52::Knx)),ByteArray.mk (Array.mk [100,111,110,101,32,57]),0),(Ug,Jnk,0),(ByteArray.mk (Array.mk (115::101::116::116::108::101::K25)),B0,14),(Kzk,ByteArray.mk (Array.mk [100,111,110,101,32,49,48]),0),(Ju,B0,21),(ByteArray.mk (Array.mk [98,105,108,108,32,111,49]),ByteArray.mk (Array.mk [51,32,49,54,32,49,52,32,55,48,32,49,50]),0),(ByteArray.mk (Array.mk [98,97,108,97,110,99,101,32,98]),ByteArray.mk (Array.mk [45,53,56]),0),(ByteArray.mk (Array.mk [114,97,116,101,32,97]),ByteArray.mk (Array.mk [53]),0),(Ky5,B0,32),(Uo,ByteArray.mk (Array.mk [112]),0),(ByteArray.mk (Array.mk (114::101::116::117::114::110::32::112::Z99)),ByteArray.mk (Array.mk [100,111,110,101,32,49,49]),0),(Ky5,ByteArray.mk (Array.mk [100,111,110,101,32,49,50]),0),(ByteArray.mk (Array.mk (115::101::116::116::108::101::32::56::Z85)),ByteArray.mk (Array.mk [100,111,110,101,32,49,51]),0),(Un,ByteArray.mk (Array.mk [56]),0)]=Js5)∧Br false Z78 ((13≤1000∧∀(e:Ev),e∈Fz→Jgc e)∧Br false Z78 (T2 (((0:Int)≤0∧(0:Int)≤6∧(6:Int)≤13)∧lOk (List.take 6 Fz)) (lOk Fz∧T2 (lOk Fz) ((((0:Int)≤0∧(0:Int)≤10∧(10:Int)≤13)∧lOk (List.take 10 Fz))∧T2 (lOk Fz) ((13≤1000∧∀(e:Ev),e∈Fz→Dk e)∧(325:Int)≤9223372036854775807∧(Iw Kyg∧Iw Kwo∧Iw Kwj∧Iw Kwg∧Iw Kvr∧Iw Kvi∧Iw (Kvi+Zr Fz Knt)∧(true=true→2≤1000000))∧Tw (true=true)))))))=_).mp ?_
 delta Z78 Z85 Z89 Z99 Knx Kh1 Knt K25 Jnk Kzk Ky5 Kyg Kwo Kwj Kwg Kvr Kvi Br Iw T2 Tw Sf B0 Ug Up Uo Un Ju
 have ok:lOk Fz:=⟨by rw[Jrh];decide,Jo3⟩
 have z1:Jba (List.take 6 Fz) {data:={toList:=[97]}} 3=0:=by kernel_rfl
 have z2:Jba (List.take 6 Fz) {data:={toList:=[98]}} 5=0:=by kernel_rfl
 have z3:Jcv Fz {data:={toList:=[97]}} {data:={toList:=[98]}}=0:=by kernel_rfl
 have z4:Jbh Fz 4=0:=by kernel_rfl
 have z5:(Yl Fz).2=0:=by kernel_rfl
 have z6:avE (List.take 10 Fz) {data:={toList:=[98]}}=0:=by kernel_rfl
 have z7:avE Fz {data:={toList:=[98]}}=0:=by kernel_rfl
 have z8:Zr Fz {data:={toList:=[97]}}=0:=by kernel_rfl
 rw[z1,z2,z3,z4,z5,z6,z7,z8]
 exact⟨⟨rfl,rfl⟩,fun h=>(nomatch h),fun _=>⟨⟨Od,Jo3⟩,fun h=>(nomatch h),fun _=>⟨⟨Oo,Jo4 6⟩,⟨Oo,Jo4 6⟩,ok,ok,ok,⟨Oo,Jo4 10⟩,ok,ok,⟨Od,fun e he=>J7c (J6i e he)⟩,Od,⟨Od,Od,Od,Od,Od,Od,Od,fun _=>Od⟩,rfl,rfl⟩⟩⟩
theorem K7c:Ok Tryz.prog 14 J4b:=Jfh mixed K26.ok (by kernel_rfl) (by kernel_rfl) (U5 (l:=([(65,Tryz.f65)]:List (Nat×Func))) (List.forall_mem_cons.2 ⟨by kernel_rfl,by simp⟩)) (fun xx=>na ()) (fun xx=>fun _=>na ()) fun xx=>K5y
abbrev K8t:=K26.add K7c
abbrev K8s:=K8t
abbrev K8r:=K8s
abbrev K34:=K8r
def Jh8 (e:Ev):Bool:=bif bif bif decide (40<(e.2.1.size:Int)) then true else decide (6<(e.2.2.1.length:Int)) then true else decide (8<(e.2.2.2.1.length:Int)) then true else decide (200<(e.2.2.2.2.size:Int))
def X1 (e:Ev):Bool:=bif Jh8 e then false else e.2.2.1.all fun s=> !decide (40<(s.size:Int))
def X0 (l:List Ev) (n:Int):Bool:=bif decide (n<(l.length:Int)) then false else l.all X1
def Kcy:Con:={args:=[.val false (.list 67 sEv),aI],ress:=[Bo],owns:=[],pre:=fun(_,n,_)=>[n≤1000000],spec:=fun(l,n,_)=>(X0 l n,())}
abbrev J2k (l:List Ev) (n:Int):Nat→Option Ann:=fun id=>if id=0 then some {X:=Nat,σ:=fun k=>⟨1,[(0, .one (.sl 0)),(5, .one (.int .i64 k))],[(0, .imm 67 sEv l)]⟩,inv:=fun k=>k≤l.length∧(l.drop k).all X1=l.all X1,mu:=fun k=>l.length-k}
 else if id=2 then some {X:=Nat×Nat,σ:=fun(k,j)=>⟨1,[(0, .one (.sl 0)),(5, .one (.int .i64 k)),(6, .one (.int .i64 j))],[(0, .imm 67 sEv l)]⟩,inv:=fun(k,j)=>k<l.length∧j≤(l.getD k ev0).2.2.1.length∧(l.getD k ev0).2.2.1.length≤6∧(bif (((l.getD k ev0).2.2.1.drop j).all fun s=> !decide (40<(s.size:Int))) then(l.drop (k+1)).all X1 else false)=l.all X1,mu:=fun(k,j)=>(l.getD k ev0).2.2.1.length-j,rel:=some fun x0 x=>x0.1=x.1} else none
def Khv (a:List Ev) (b:Nat×Nat):=List.length (List.getD a b.1 ev0).2.2.1
def Kmy (a:Nat) (b:List Ev):=a≤List.length b∧List.all (List.drop a b) X1=List.all b X1
def K2k (a:List Ev) (b:Nat×Nat):=Ln (List.getD a b.1 Jaa).2.2.1
def K1v (a:List Ev) (b:Nat):=decide (40<Nc (ByteArray.size (J8h a b).1))
def Kwu (a:List Ev) (b:Nat):=bif K1v a b then true else decide (6<Ln (J8e a b).1)
def Kv1 (a:List Ev) (b:Nat):=bif Kwu a b then true else decide (8<Ln (J8a a b).1)
def Kvz (a:Nat×Nat) (b:List Ev):=a.1<List.length b∧a.2≤Khv b a∧Khv b a≤6∧(bif List.all (List.drop a.2 (List.getD b a.1 ev0).2.2.1) fun(s:ByteArray)=> !decide (40<Nc (ByteArray.size s)) then List.all (List.drop (a.1+1) b) X1 else false)=List.all b X1
def Kvt (a:Nat×Nat) (b:List Ev) (c:Nat×Nat):=Kvz a b∧c.1=a.1
theorem K7d:Ok Tryz.prog 13 Kcy:=okW K34 Tryz.f13 (fun xx=>J2k xx.1 xx.2.1) fun xx=>by
 obtain⟨(l:List Ev),(n:Int),_⟩:=xx
 refine(by kernel_rfl:(n≤1000000→Br (decide (n<Ln l)) (false=X0 l n) (∃(x:Nat),(0=Nc x∧l=l)∧Kmy x l∧∀(x:Nat),Kmy x l→Br (decide (Nc x<Ln l)) (T2 (Z9 x l) (T2 (K1v l x=false→Z9 x l) (T2 (Kwu l x=false→Z9 x l) (Tw (Kv1 l x=false→Z9 x l))))∧Br (bif Kv1 l x then true else decide (200<Nc (ByteArray.size (J8a l x).2))) (false=X0 l n) (∃(x0:Nat×Nat),(Nc x=Nc x0.1∧0=Nc x0.2∧l=l)∧(Kvz x0 l∧x0.1=x0.1)∧∀(x_1:Nat×Nat),Kvt x_1 l x0→Tw (Bd (Nc x_1.1) (Ln l))∧Br (decide (Nc x_1.2<K2k l x_1)) (T2 (Bd (Nc x_1.1) (Ln l)) (Tw (Bd (Nc x_1.2) (K2k l x_1)))∧Br (decide (40<Nc (ByteArray.size (List.getD (List.getD l x_1.1 Jaa).2.2.1 x_1.2 B0)))) (false=X0 l n) (Iw (Nc x_1.2+1)∧∃(y:Nat×Nat),(Nc x_1.1=Nc y.1∧Nc x_1.2+1=Nc y.2∧l=l)∧Kvt y l x0∧Khv l y-y.2<Khv l x_1-x_1.2)) (Iw (Nc x_1.1+1)∧∃(y:Nat),(Nc x_1.1+1=Nc y∧l=l)∧Kmy y l∧List.length l-y<List.length l-x))) (true=X0 l n)))=_).mp ?_
 delta Z9 Khv Jaa J8h J8e J8a Kmy K2k K1v Kwu Kv1 Kvz Kvt Br Iw Bd T2 Tw Ln Nc B0
 intro hn
 refine⟨fun h=> ?_,fun h=>⟨(0:Nat),Oe,⟨Nat.zero_le _,rfl⟩,fun(k:Nat) hk=>⟨fun h1=> ?_,fun h1=> ?_⟩⟩⟩
 ·unfold X0;rw[h];rfl
 ·have hsh:X0 l n=l.all X1:=by unfold X0;rw[h];rfl
  obtain⟨k1,k2⟩:=hk
  have hlt:k<l.length:=by simpa using h1
  have hn2:(l.length:Int)≤n:=by have:=of_decide_eq_false h;omega
  rw[J2 (d:=ev0) hlt,List.all_cons] at k2
  have hz:((0:Int),({data:={toList:=[]}}:ByteArray),([]:List ByteArray),([]:List Int),({data:={toList:=[]}}:ByteArray))=ev0:=rfl
  have hx:((0:Int)≤(k:Int)∧(k:Int)<(l.length:Int))=True:=eq_true Oo
  simp only[hz,hx,implies_true,true_and,and_true]
  refine⟨fun h2=> ?_,fun h2=> ?_⟩
  ·have h2:X1 (l.getD k ev0)=false:=by unfold X1;rw[show Jh8 (l.getD k ev0)=true from h2];rfl
   rw[h2] at k2
   rw[hsh,←k2];rfl
  ·have h2:Jh8 (l.getD k ev0)=false:=h2
   have h6:(l.getD k ev0).2.2.1.length≤6:=by
    unfold Jh8 at h2
    cases hc:decide (6<((l.getD k ev0).2.2.1.length:Int)) with
    |false=>have:=of_decide_eq_false hc;omega
    |true=>rw[hc] at h2;simp at h2
   have hand:∀u v:Bool,(bif u then v else false)=(u&&v):=by decide
   have hsb:X1 (l.getD k ev0)=(l.getD k ev0).2.2.1.all fun s=> !decide (40<(s.size:Int)):=by unfold X1;rw[h2];rfl
   refine⟨(k,(0:Nat)),Oe,⟨hlt,Nat.zero_le _,h6,by rw[hand];rw[hsb] at k2;exact k2⟩,fun(x:Nat×Nat) hx=> ?_⟩
   obtain⟨k',j⟩:=x
   obtain⟨⟨j1,j2,j3,j4⟩,j5⟩:=hx
   have j5:k=k':=j5
   subst j5
   dsimp only at j1 j2 j3 j4⊢
   refine⟨Oo,fun h3=> ?_,fun h3=> ?_⟩
   ·have hj:j<(l.getD k ev0).2.2.1.length:=Int.ofNat_lt.1 (of_decide_eq_true h3)
    rw[J2 (d:=Ja) hj,List.all_cons] at j4
    refine⟨⟨Oo,Oo, ?_, ?_⟩,fun h4=> ?_,fun h4=>⟨?_,(k,j+1),⟨rfl,by simp⟩,⟨⟨hlt,by dsimp only;omega,j3, ?_⟩,rfl⟩, ?_⟩⟩
    ·exact⟨Oo,Int.ofNat_lt.2 hj⟩
    ·exact⟨Oo,Int.ofNat_lt.2 hj⟩
    ·have h4:decide (40<(((l.getD k ev0).2.2.1.getD j Ja).size:Int))=true:=h4
     rw[h4] at j4
     rw[hsh,←j4];rfl
    ·omega
    ·have h4:decide (40<(((l.getD k ev0).2.2.1.getD j Ja).size:Int))=false:=h4
     rw[h4] at j4
     exact j4
    ·dsimp only;omega
   ·have hj:¬j<(l.getD k ev0).2.2.1.length:=fun q=>of_decide_eq_false h3 (Int.ofNat_lt.2 q)
    rw[List.drop_eq_nil_of_le Oo] at j4
    exact⟨Oo,(k+1:Nat),by simp,⟨Oo,j4⟩,Oo⟩
 ·have hsh:X0 l n=l.all X1:=by unfold X0;rw[h];rfl
  obtain⟨k1,k2⟩:=hk
  have hlt:¬k<l.length:=by simpa using h1
  rw[List.drop_eq_nil_of_le Oo] at k2
  rw[hsh,←k2];rfl
abbrev K8q:=K34.add K7d
theorem J1p {k:ByteArray} (h:Y5 k=false):(Hd k).2.2=false:=by
 have hne:∀w:ByteArray,Y5 w=true→(k.toList==w.toList)=false:=fun w hw=>by
  cases hc:k.toList==w.toList with
  |false=>rfl
  |true=>
   have:=Vy hc
   subst this
   rw[hw] at h;cases h
 unfold Hd
 rw[hne Jw (by kernel_rfl),hne Uf (by kernel_rfl),hne Ki (by kernel_rfl),hne K9 (by kernel_rfl),hne V2 (by kernel_rfl),hne Js (by kernel_rfl),hne Jt (by kernel_rfl),hne Kg (by kernel_rfl),hne Kf (by kernel_rfl),hne Jk (by kernel_rfl),hne Ju (by kernel_rfl)]
 rfl
theorem Joz {k:ByteArray} (h:Y5 k=true):(Hd k).2.2=true∧(Hd k).1.size=(Jm k).1.length∧(Hd k).2.1=(Jm k).2.1:=by
 rcases Vd h with h|h|h|h|h|h|h|h|h|h|h<;>subst h
 all_goals exact⟨by kernel_rfl,by kernel_rfl,by kernel_rfl⟩
def J9 (k:ByteArray):ByteArray×Int×Bool:=Hd k
def Kdm:Con:={args:=[aS],ress:=[(true,Kb7)],owns:=[],pre:=fun _=>[],spec:=fun(k,_)=>(J9 k,())}
theorem Kck:Ok Tryz.prog 110 Kdm:=Kcl
abbrev K33:=K8q.add Kck
def ckN (ns:List ByteArray):Int:=Ji (ns.map fun s=>bif Yx s then 0 else 8)
def ckV (vs:List Int):Int:=Ji (vs.map fun n=>Km n 0 999999999)
theorem J1w (t:ByteArray):(t.toList==Ja.toList)= !decide (0<t.size):=by
 cases h:t.toList==Ja.toList with
 |true=>have:=Vy h;subst this;rfl
 | false =>
  have:0<t.size:=Nat.pos_of_ne_zero fun h0=>by
   have e:t.data.toList=[]:=List.eq_nil_of_length_eq_zero h0
   rw[Lib.toList_data,Lib.toList_data,e] at h
   exact nomatch (show true=false from h)
  rw[decide_eq_true this];rfl
theorem Yy (x:Int) (l:List Int):Ji (x::l)=if x=0 then Ji l else x:=rfl
def Kd1:Con:={args:=[aEv],ress:=[I],owns:=[],pre:=fun(e,_)=>[e.2.2.1.length≤1000000,e.2.2.2.1.length≤1000000,∀s∈e.2.2.1,s.size≤1000000],spec:=fun(e,_)=>(Jb e,())}
abbrev Ktn (n:Int) (k:ByteArray) (ns:List ByteArray) (vs:List Int) (t:ByteArray):Nat→Option Ann:=fun id=>if id=0 then some {X:=Nat,σ:=fun i=>⟨4,[(1, .one (.ptr 2 0)),(3, .one (.ptr 3 0)),(4, .one (.int .i64 i))],[(2, .box 67 [.int .i64 n, .str k, .sl 0, .sl 1, .str t]),(3, .box 208 [.str (J9 k).1, .int .i64 (J9 k).2.1, .bool (J9 k).2.2]),(0, .imm 9 .str ns),(1, .imm 3 sI vs)]⟩,inv:=fun i=>i≤ns.length∧ckN (ns.drop i)=ckN ns,mu:=fun i=>ns.length-i}
 else if id=2 then some {X:=Nat,σ:=fun i=>⟨4,[(1, .one (.ptr 2 0)),(3, .one (.ptr 3 0)),(5, .one (.int .i64 i))],[(2, .box 67 [.int .i64 n, .str k, .sl 0, .sl 1, .str t]),(3, .box 208 [.str (J9 k).1, .int .i64 (J9 k).2.1, .bool (J9 k).2.2]),(0, .imm 9 .str ns),(1, .imm 3 sI vs)]⟩,inv:=fun i=>i≤vs.length∧ckV (vs.drop i)=ckV vs,mu:=fun i=>vs.length-i}
 else none
def Z8 (a:Bt):=Nc (ByteArray.size (J9 a).1)
def Knl (a:Nat) (b:Li):=a≤List.length b∧ckV (List.drop a b)=ckV b
def Knb (a:Nat) (b:Ls):=a≤List.length b∧ckN (List.drop a b)=ckN b
def Kyy (a:Int) (b c:Bt) (d:Ls) (e:Li):=Si a (Sf b (Sf c (Sf (J9 b).1 (Si (J9 b).2.1 (Sf (J9 b).2.2 (Sf d (e=e)))))))
def Kx4 (a:Nat) (b:Int) (c d:Bt) (e:Ls) (f:Li):=0=Nc a∧Kyy b c d e f
def Kxm (a b:Nat) (c:Int) (d e:Bt) (f:Ls) (g:Li):=Z96 a b∧Kyy c d e f g
theorem K61:Ok Tryz.prog 36 Kd1:=okW K33 Tryz.f36 (fun xx=>Ktn xx.1.1 xx.1.2.1 xx.1.2.2.1 xx.1.2.2.2.1 xx.1.2.2.2.2) fun xx=>by
 obtain⟨⟨(n:Int),(k:ByteArray),(ns:List ByteArray),(vs:List Int),(t:ByteArray)⟩,_⟩:=xx
 refine(by kernel_rfl:(Jb2 ns→Z52 vs→Jih ns→Br (Xx n 1 1000) (3=Jb (n,k,ns,vs,t)) (Br (!(J9 k).2.2) (13=Jb (n,k,ns,vs,t)) (Br (bif Ln ns !=Z8 k then true else Ln vs !=(J9 k).2.1) (2=Jb (n,k,ns,vs,t)) (∃(x:Nat),Kx4 x n k t ns vs∧Knb x ns∧∀(x:Nat),Knb x ns→Br (decide (Nc x<Z8 k)) (T2 (Bd (Nc x) (Ln ns)) (ByteArray.size (List.getD ns x B0)≤1000000)∧Br (!Yx (List.getD ns x B0)) (8=Jb (n,k,ns,vs,t)) (Z17 x∧∃(y:Nat),Kxm x y n k t ns vs∧Knb y ns∧List.length ns-y<List.length ns-x)) (∃(x:Nat),Kx4 x n k t ns vs∧Knl x vs∧∀(x:Nat),Knl x vs→Br (decide (Nc x<(J9 k).2.1)) (Tw (Bd (Nc x) (Ln vs))∧Br (Xx (Z20 vs x) 0 999999999) (3=Jb (n,k,ns,vs,t)) (Z17 x∧∃(y:Nat),Kxm x y n k t ns vs∧Knl y vs∧J4u vs y x)) (Br (!Lb t B0) (1=Jb (n,k,ns,vs,t)) (0=Jb (n,k,ns,vs,t))))))))=_).mp ?_
 delta Z8 Z17 Z20 Z52 Z96 Jb2 J4u Knl Jhl Knb Jih Kyy Kx4 Kxm Br Iw Bd T2 Tw Sf Si Ln Nc B0 Lb
 intro h1 h2 h3
 have hE1:Km n 1 1000=bif Xx n 1 1000 then 3 else 0:=rfl
 have hQ:J9 k=Hd k:=rfl
 refine⟨fun h=> ?_,fun h=>⟨fun h4=> ?_,fun h4=> ?_⟩⟩
 ·have e:Km n 1 1000=3:=by rw[hE1,h];rfl
  unfold Jb
  rw[if_pos (by dsimp only;rw[e];decide),e]
 ·have e:Km n 1 1000=0:=by rw[hE1,h];rfl
  have hk:Y5 k=false:=by
   cases hk:Y5 k with
   |false=>rfl
   |true=>
    have:=(Joz hk).1
    have h4:(!(Hd k).2.2)=true:=h4
    rw[this] at h4;cases h4
  unfold Jb
  rw[if_neg (by dsimp only;rw[e];decide)]
  dsimp only
  rw[hk];rfl
 have e:Km n 1 1000=0:=by rw[hE1,h];rfl
 have hk:Y5 k=true:=by
  cases hk:Y5 k with
  |true=>rfl
  |false=>
   have:=J1p hk
   have h4:(!(Hd k).2.2)=false:=h4
   rw[this] at h4;cases h4
 obtain⟨f1,f2,f3⟩:=Joz hk
 rw[←hQ] at f1 f2 f3
 have hc:Jb (n,k,ns,vs,t)=if ns.length=(Jm k).1.length∧(vs.length:Int)=(Jm k).2.1 then Ji [ckN ns,ckV vs,bif decide (0<t.size) then 1 else 0] else 2:=by
  unfold Jb
  rw[if_neg (by dsimp only;rw[e];decide)]
  dsimp only
  rw[hk,cond_true];rfl
 refine⟨fun h5=> ?_,fun h5=> ?_⟩
 ·rw[hc,if_neg fun q=> ?_]
  have a1:((ns.length:Int) !=((J9 k).1.size:Int))=false:=bne_eq_false_iff_eq.2 (by rw[f2];exact congrArg _ q.1)
  have a2:((vs.length:Int) !=(J9 k).2.1)=false:=bne_eq_false_iff_eq.2 (by rw[f3];exact q.2)
  have h5:(bif (ns.length:Int) !=((J9 k).1.size:Int) then true else(vs.length:Int) !=(J9 k).2.1)=true:=h5
  rw[a1,a2] at h5;cases h5
 have h5:(bif (ns.length:Int) !=((J9 k).1.size:Int) then true else(vs.length:Int) !=(J9 k).2.1)=false:=h5
 have a:=bn1 h5
 have a1:(ns.length:Int)=((J9 k).1.size:Int):=bne_eq_false_iff_eq.1 a.1
 have a2:(vs.length:Int)=(J9 k).2.1:=bne_eq_false_iff_eq.1 a.2
 rw[if_pos ⟨by rw[f2] at a1;omega,by rw[a2,f3]⟩] at hc
 refine⟨(0:Nat),Oe,⟨Nat.zero_le _,rfl⟩,fun(i:Nat) hi=>⟨fun h6=> ?_,fun h6=> ?_⟩⟩
 ·have h6:(i:Int)<((J9 k).1.size:Int):=of_decide_eq_true h6
  have hlt:i<ns.length:=by omega
  have hN:ckN (ns.drop i)=if(bif Yx (ns.getD i Ja) then(0:Int) else 8)=0 then ckN (ns.drop (i+1)) else bif Yx (ns.getD i Ja) then 0 else 8:=by
   rw[J2 (d:=Ja) hlt]
   exact Yy _ _
  refine⟨⟨Oo,Oo,h3 _ (Je hlt)⟩,fun h7=> ?_,fun h7=>⟨Oo,(i+1:Nat),Oe,⟨Oo, ?_⟩,Oo⟩⟩
  ·have h7:(!Yx (ns.getD i Ja))=true:=h7
   have h7:Yx (ns.getD i Ja)=false:=by simpa using h7
   rw[h7] at hN
   have:ckN ns=8:=by rw[←hi.2,hN];rfl
   rw[hc,Yy,this];rfl
  ·have h7:(!Yx (ns.getD i Ja))=false:=h7
   have h7:Yx (ns.getD i Ja)=true:=by simpa using h7
   rw[h7] at hN
   rw[←hi.2,hN];rfl
 ·have h6:¬(i:Int)<((J9 k).1.size:Int):=of_decide_eq_false h6
  have hN:ckN ns=0:=by rw[←hi.2,List.drop_eq_nil_of_le Oo];rfl
  refine⟨(0:Nat),Oe,⟨Nat.zero_le _,rfl⟩,fun(j:Nat) hj=>⟨fun h8=> ?_,fun h8=> ?_⟩⟩
  ·have h8:(j:Int)<(J9 k).2.1:=of_decide_eq_true h8
   have hlt:j<vs.length:=by omega
   have hV:ckV (vs.drop j)=if Km (vs.getD j 0) 0 999999999=0 then ckV (vs.drop (j+1)) else Km (vs.getD j 0) 0 999999999:=by
    rw[J2 (d:=(0:Int)) hlt]
    exact Yy _ _
   have hW:Km (vs.getD j 0) 0 999999999=bif Xx (vs.getD j 0) 0 999999999 then 3 else 0:=rfl
   refine⟨Oo,fun h7=> ?_,fun h7=>⟨Oo,(j+1:Nat),Oe,⟨Oo, ?_⟩,Oo⟩⟩
   ·rw[hW,h7] at hV
    have:ckV vs=3:=by rw[←hj.2,hV];rfl
    rw[hc,Yy,hN,if_pos rfl,Yy,this];rfl
   ·rw[hW,h7] at hV
    rw[←hj.2,hV];rfl
  ·have h8:¬(j:Int)<(J9 k).2.1:=of_decide_eq_false h8
   have hV:ckV vs=0:=by rw[←hj.2,List.drop_eq_nil_of_le Oo];rfl
   have hz:(t.toList==({data:={toList:=[]}}:ByteArray).toList)= !decide (0<t.size):=J1w t
   rw[hz,hc,Yy,hN,if_pos rfl,Yy,hV,if_pos rfl]
   cases decide (0<t.size)
   ·exact⟨fun h=>(nomatch h),fun _=>rfl⟩
   ·exact⟨fun _=>rfl,fun h=>(nomatch h)⟩
abbrev K8p:=K33.add K61
abbrev K8o:=K8p
abbrev K8n:=K8o
abbrev K8m:=K8n
abbrev K8l:=K8m
abbrev K8k:=K8l
abbrev K32:=K8k
def Ji7 (c:Int):Int:=bif c==115 then 0 else bif c==111 then 1 else bif c==120 then 2 else 3
def Jl1 (b:UInt8):Int×Bool:=bif decide ((97:Int)≤(b.toNat:Int)) then(Ji7 b.toNat,true) else(Ji7 (b.toNat+97-65),false)
theorem J4e (r:Reg) (c:Int) (s:ByteArray):Vq r (Ji7 c) s=decide (0≤atS r c s):=by
 unfold atS Ji7
 cases h1:c==115 with
 |true=>rfl
 | false =>
  cases h2:c==111 with
  |true=>rfl
  |false=>
   cases h3:c==120 with
   |true=>rfl
   |false=>rfl
theorem Jtx {k:ByteArray} (h:Y5 k=true):(Jm k).1=(J9 k).1.data.toList.map Jl1∧((Jm k).1.drop 1).all (fun x=>x.2)=true:=by
 rcases Vd h with h|h|h|h|h|h|h|h|h|h|h<;>subst h
 all_goals exact⟨by kernel_rfl,by kernel_rfl⟩
theorem Jes {r:Reg} {ns:List ByteArray}:∀{l:List (Int×Bool)} {i:Nat},l.all (fun x=>x.2)=true→Kq r ns l i=false
 |[],_,_=>rfl
 |(w,b)::l,i,h=>by
  rw[List.all_cons,Bool.and_eq_true] at h
  have hb:b=true:=h.1
  subst hb
  unfold Kq
  exact Jes h.2
def Jv (r:Reg) (k:ByteArray) (ns:List ByteArray):Int:=bif Kn r ns (Jm k).1 0 then 10 else bif Kq r ns (Jm k).1 0 then 9 else 0
def Kc6:Con:={args:=[Hk,aEv],ress:=[I],owns:=[],pre:=fun(r,e,_)=>[Jj r,Y5 e.2.1=true,e.2.2.1.length=(Jm e.2.1).1.length],spec:=fun(r,e,_)=>(Jv r e.2.1 e.2.2.1,())}
abbrev Kem (tk st:Int) (S:List Sta) (O:List Ord) (M:List Met) (X:List Out) (Q:List Per) (n:Int) (k:ByteArray) (ns:List ByteArray) (vs:List Int) (tx:ByteArray):Ann:={X:=Nat,σ:=fun i=>⟨9,[(2, .one (.ptr 7 0)),(3, .one (.ptr 8 0)),(5, .one (.str (J9 k).1)),(6, .one (.int .i64 i))],[(0, .imm 114 Ft S),(1, .imm 119 Lt O),(2, .imm 121 Jaw M),(3, .imm 123 Zw X),(4, .imm 125 Hw Q),(5, .imm 9 .str ns),(6, .imm 3 sI vs),(7, .box 37 [.int .i64 tk, .int .i64 st, .sl 0, .sl 1, .sl 2, .sl 3, .sl 4]),(8, .box 67 [.int .i64 n, .str k, .sl 5, .sl 6, .str tx])]⟩,inv:=fun i=>i≤(J9 k).1.size∧Kn (tk,st,S,O,M,X,Q) ns ((Jm k).1.drop i) i=Kn (tk,st,S,O,M,X,Q) ns (Jm k).1 0,mu:=fun i=>(J9 k).1.size-i}
def K2u (a:Bt):=Nc (UInt8.toNat (List.getD (J9 a).1.data.toList 0 0))
def K2b (a:Bt) (b:Nat):=decide (97≤Nc (UInt8.toNat (List.getD (J9 a).1.data.toList b 0)))
def Klr (a:Bt) (b:Nat):=K2b a b=true
def Kyk (a:Bt):=bif decide (0<Z8 a) then decide (K2u a<97) else false
def Kjx (a:Bt):=Kyk a=true
def Kjw (a:Nat) (b:Bt) (c d:Int) (e:List Sta) (f:List Ord) (g:List Met) (h:List Out) (i:List Per) (j:Ls):=a≤ByteArray.size (J9 b).1∧Kn (Z64 c d e f g h i) j (List.drop a (Jm b).1) a=Kn (Z64 c d e f g h i) j (Jm b).1 0
theorem Kpp:Ok Tryz.prog 224 Kc6:=okW K32 Tryz.f224 (fun xx=>Zn (Kem xx.1.1 xx.1.2.1 xx.1.2.2.1 xx.1.2.2.2.1 xx.1.2.2.2.2.1 xx.1.2.2.2.2.2.1 xx.1.2.2.2.2.2.2 xx.2.1.1 xx.2.1.2.1 xx.2.1.2.2.1 xx.2.1.2.2.2.1 xx.2.1.2.2.2.2)) fun xx=>by
 obtain⟨⟨(tk:Int),(st:Int),(S:List Sta),(O:List Ord),(M:List Met),(X:List Out),(Q:List Per)⟩,⟨(n:Int),(k:ByteArray),(ns:List ByteArray),(vs:List Int),(tx:ByteArray)⟩,_⟩:=xx
 refine(by kernel_rfl:(Jy tk st S O M X Q→Y5 k=true→List.length ns=List.length (Jm k).1→∃(x:Nat),Sf (J9 k).1 (0=Nc x∧Sf S (Sf O (Sf M (Sf X (Sf Q (Sf ns (Sf vs (Si tk (Si st (Si n (Sf k (tx=tx))))))))))))∧Kjw x k tk st S O M X Q ns∧∀(x:Nat),Kjw x k tk st S O M X Q ns→Br (decide (Nc x<Z8 k)) ((Bd (Nc x) (Z8 k)∧(Klr k x→Bd (Nc x) (Z8 k))∧T2 (Klr k x→Bd (Nc x) (Ln ns)) (Klr k x→Jy tk st S O M X Q))∧Br (bif K2b k x then decide (atS (Z64 tk st S O M X Q) (Nc (UInt8.toNat (List.getD (J9 k).1.data.toList x 0))) (List.getD ns x B0)<0) else false) (10=Jv (Z64 tk st S O M X Q) k ns) (Z17 x∧∃(y:Nat),Sf (J9 k).1 (Z96 x y∧Sf S (Sf O (Sf M (Sf X (Sf Q (Sf ns (Sf vs (Si tk (Si st (Si n (Sf k (tx=tx))))))))))))∧Kjw y k tk st S O M X Q ns∧ByteArray.size (J9 k).1-y<ByteArray.size (J9 k).1-x)) (((decide (0<Z8 k)=true→Bd 0 (Z8 k))∧(Kjx k→Bd 0 (Z8 k))∧T2 (Kjx k→Z92 ns) (Kjx k→Jy tk st S O M X Q))∧Br (bif Kyk k then decide (0≤atS (Z64 tk st S O M X Q) (IntKind.wrap IntKind.u8 (IntKind.wrap IntKind.u8 (K2u k+97)-65)) (Vb ns)) else false) (9=Jv (Z64 tk st S O M X Q) k ns) (0=Jv (Z64 tk st S O M X Q) k ns)))=_).mp ?_
 delta Z8 Z17 Z64 Z92 Z96 Vb Jy K2u K2b Klr Kyk Kjx Kjw Br Iw Bd T2 Sf Si Ln Nc B0
 intro hr hk hn
 obtain⟨f1,f2,f3⟩:=Joz hk
 have f2:(J9 k).1.size=(Jm k).1.length:=f2
 obtain⟨fr,fk⟩:=Jtx hk
 have hB:=Jj6 k
 have hfl:(J9 k).1.data.toList.length=(J9 k).1.size:=rfl
 have hb0:∀i,i<(J9 k).1.size→(Jm k).1.getD i (0,false)=Jl1 ((J9 k).1.data.toList.getD i 0):=fun i hi=>by
  rw[fr,List.getD_eq_getElem?_getD,List.getElem?_map,List.getD_eq_getElem?_getD]
  rw[List.getElem?_eq_getElem Oo];rfl
 refine⟨(0:Nat),Oe,⟨Nat.zero_le _,rfl⟩,fun(i:Nat) hi=>⟨fun h1=> ?_,fun h1=> ?_⟩⟩
 ·have hlt:i<(J9 k).1.size:=by simpa using h1
  have h0:=hi.2
  rw[J2 (d:=((0:Int),false)) Oo,hb0 i hlt] at h0
  have hu:Kn (tk,st,S,O,M,X,Q) ns (Jl1 ((J9 k).1.data.toList.getD i 0)::(Jm k).1.drop (i+1)) i=bif (bif decide (97≤(((J9 k).1.data.toList.getD i 0).toNat:Int)) then decide (atS (tk,st,S,O,M,X,Q) (((J9 k).1.data.toList.getD i 0).toNat:Int) (ns.getD i Ja)<0) else false) then true else Kn (tk,st,S,O,M,X,Q) ns ((Jm k).1.drop (i+1)) (i+1):=by
   unfold Jl1
   cases hc:decide ((97:Int)≤(((J9 k).1.data.toList.getD i 0).toNat:Int)) with
   |false=>rfl
   | true =>
    rw[cond_true,Kn,J4e,cond_true]
    have:(!decide (0≤atS (tk,st,S,O,M,X,Q) (((J9 k).1.data.toList.getD i 0).toNat:Int) (ns.getD i Ja)))=decide (atS (tk,st,S,O,M,X,Q) (((J9 k).1.data.toList.getD i 0).toNat:Int) (ns.getD i Ja)<0):=by
     rw[Bool.eq_iff_iff];simp
    rw[this];rfl
  rw[hu] at h0
  refine⟨⟨Oo,fun _=>Oo,fun _=>Oo,fun _=>Oo,fun _=>hr⟩,fun h2=> ?_,fun h2=>⟨Oo,(i+1:Nat),Oe,⟨Oo, ?_⟩,Oo⟩⟩
  ·rw[show(bif decide (97≤(((J9 k).1.data.toList.getD i 0).toNat:Int)) then decide (atS (tk,st,S,O,M,X,Q) (((J9 k).1.data.toList.getD i 0).toNat:Int) (ns.getD i Ja)<0) else false)=true from h2,cond_true] at h0
   unfold Jv;rw[←h0];rfl
  ·rw[show(bif decide (97≤(((J9 k).1.data.toList.getD i 0).toNat:Int)) then decide (atS (tk,st,S,O,M,X,Q) (((J9 k).1.data.toList.getD i 0).toNat:Int) (ns.getD i Ja)<0) else false)=false from h2,cond_false] at h0
   exact h0
 ·have hlt:¬i<(J9 k).1.size:=by simpa using h1
  have h0:=hi.2
  rw[List.drop_eq_nil_of_le Oo] at h0
  have hu0:Kn (tk,st,S,O,M,X,Q) ns (Jm k).1 0=false:=h0.symm
  have hN:Jv (tk,st,S,O,M,X,Q) k ns=bif Kq (tk,st,S,O,M,X,Q) ns (Jm k).1 0 then 9 else 0:=by unfold Jv;rw[hu0];rfl
  have g0:∀{p:Prop},(bif decide ((0:Int)<((J9 k).1.size:Int)) then decide ((((J9 k).1.data.toList.getD 0 0).toNat:Int)<97) else false)=true→(J9 k).1.size≠0:=fun{p} h=>by
   intro q
   rw[q] at h
   cases h
  have hz:∀{b:Bool},(bif decide ((0:Int)<((J9 k).1.size:Int)) then b else false)=true→0<(J9 k).1.size:=fun{b} h=>by
   by_cases q:0<(J9 k).1.size
   ·exact q
   ·rw[decide_eq_false (show ¬(0:Int)<((J9 k).1.size:Int) by omega)] at h;cases h
  have key:(bif bif decide ((0:Int)<((J9 k).1.size:Int)) then decide ((((J9 k).1.data.toList.getD 0 0).toNat:Int)<97) else false then decide (0≤atS (tk,st,S,O,M,X,Q) (IntKind.u8.wrap (IntKind.u8.wrap ((((J9 k).1.data.toList.getD 0 0).toNat:Int)+97)-65)) (ns.getD 0 Ja)) else false)=Kq (tk,st,S,O,M,X,Q) ns (Jm k).1 0:=by
   by_cases q:0<(J9 k).1.size
   ·rw[decide_eq_true (show(0:Int)<((J9 k).1.size:Int) by omega),cond_true]
    have hc:=J2 (l:=(Jm k).1) (k:=0) (d:=((0:Int),false)) Oo
    rw[List.drop_zero,hb0 0 q] at hc
    rw[hc]
    unfold Jl1
    by_cases q1:(97:Int)≤(((J9 k).1.data.toList.getD 0 0).toNat:Int)
    ·rw[decide_eq_true q1,decide_eq_false (show ¬(((J9 k).1.data.toList.getD 0 0).toNat:Int)<97 by omega)]
     exact(Jes fk).symm
    ·rw[decide_eq_false q1,decide_eq_true (show(((J9 k).1.data.toList.getD 0 0).toNat:Int)<97 by omega)]
     rw[cond_true,cond_false,Kq,J4e,Jes fk,J45 (n:=(((J9 k).1.data.toList.getD 0 0).toNat:Int)+97) Oo Oo,J45 (n:=(((J9 k).1.data.toList.getD 0 0).toNat:Int)+97-65) Oo Oo]
     show _=bif _ then true else false
     cases decide (0≤atS (tk,st,S,O,M,X,Q) ((((J9 k).1.data.toList.getD 0 0).toNat:Int)+97-65) (ns.getD 0 Ja))<;>rfl
   ·rw[decide_eq_false (show ¬(0:Int)<((J9 k).1.size:Int) by omega)]
    have:(Jm k).1=[]:=List.eq_nil_of_length_eq_zero Oo
    rw[this];rfl
  refine⟨⟨fun h=>⟨Od,of_decide_eq_true h⟩,fun h=>⟨Od,by have:=hz h;omega⟩,fun h=>⟨Od,by have:=hz h;omega⟩,fun h=>⟨Od,by have:=hz h;omega⟩,fun _=>hr⟩,fun h2=> ?_,fun h2=> ?_⟩
  ·rw[hN,show Kq (tk,st,S,O,M,X,Q) ns (Jm k).1 0=true from key.symm.trans h2];rfl
  ·rw[hN,show Kq (tk,st,S,O,M,X,Q) ns (Jm k).1 0=false from key.symm.trans h2];rfl
abbrev K31:=K32.add Kpp
def Yn (Q:List Per) (s:ByteArray):Bool:=decide ((0:Int)<((Dm Q).filter fun p=>p.2.1.toList==s.toList).length)
theorem Joy (x:Per) (Q:List Per) (s:ByteArray):Yn (x::Q) s=bif (bif x.2.1.toList==s.toList then x.2.2 else false) then true else Yn Q s:=by
 unfold Yn Dm
 rw[List.filter_cons]
 cases h1:x.2.2 with
 |false=>
  rw[if_neg (by simp)]
  cases(x.2.1.toList==s.toList)<;>rfl
 | true =>
  rw[if_pos rfl,List.filter_cons]
  cases h2:(x.2.1.toList==s.toList) with
  |false=>rfl
  |true=>
   rw[if_pos rfl]
   exact decide_eq_true (by simp only[List.length_cons];omega)
def Kdk:Con:={args:=[Hk,aS],ress:=[Bo],owns:=[],pre:=fun((_,_,_,_,_,_,Q),_)=>[Q.length≤1000000],spec:=fun((_,_,_,_,_,_,Q),s,_)=>(Yn Q s,())}
abbrev Kel (tk st:Int) (S:List Sta) (O:List Ord) (M:List Met) (X:List Out) (Q:List Per) (s:ByteArray):Ann:={X:=Nat,σ:=fun k=>⟨6,[(1, .one (.str s)),(2, .one (.ptr 5 0)),(5, .one (.int .i64 k))],[(0, .imm 114 Ft S),(1, .imm 119 Lt O),(2, .imm 121 Jaw M),(3, .imm 123 Zw X),(4, .imm 125 Hw Q),(5, .box 37 [.int .i64 tk, .int .i64 st, .sl 0, .sl 1, .sl 2, .sl 3, .sl 4])]⟩,inv:=fun k=>k≤Q.length∧Yn Q s=Yn (Q.drop k) s,mu:=fun k=>Q.length-k}
def Kna (a:Nat) (b:List Per) (c:Bt):=a≤List.length b∧Yn b c=Yn (List.drop a b) c
theorem Ko1:Ok Tryz.prog 269 Kdk:=okW K31 Tryz.f269 (fun xx=>Zn (Kel xx.1.1 xx.1.2.1 xx.1.2.2.1 xx.1.2.2.2.1 xx.1.2.2.2.2.1 xx.1.2.2.2.2.2.1 xx.1.2.2.2.2.2.2 xx.2.1)) fun xx=>by
 obtain⟨⟨(tk:Int),(st:Int),(S:List Sta),(O:List Ord),(M:List Met),(X:List Out),(Q:List Per)⟩,(s:ByteArray),_⟩:=xx
 refine(by kernel_rfl:(Z49 Q→∃(x:Nat),Jzz s x S O M X Q tk st∧Kna x Q s∧∀(x:Nat),Kna x Q s→Br (J0c x Q) (T2 (Bd (Nc x) (Ln Q)) (Tw (Lb (J4z Q x).1 s=true→Bd (Nc x) (Ln Q)))∧Br (bif Lb (J4z Q x).1 s then(J4z Q x).2 else false) (true=Yn Q s) (Z17 x∧∃(y:Nat),Jzy s x y S O M X Q tk st∧Kna y Q s∧J21 Q y x)) (false=Yn Q s))=_).mp ?_
 delta Z17 Z49 Z96 J0c J4z J21 Kna Jr7 Jzz Jzy Br Iw Bd T2 Tw Sf Si Ln Nc B0 Lb
 intro hb
 refine⟨(0:Nat),Oe,⟨Nat.zero_le _,rfl⟩,fun(k:Nat) hk=>⟨fun h=> ?_,fun h=> ?_⟩⟩
 ·have hlt:k<Q.length:=by simpa using h
  have hd:=J2 (d:=Jjo) hlt
  have h0:=hk.2
  rw[hd,Joy] at h0
  refine⟨⟨Oo,Oo,fun _=>Oo,fun _=>Oo⟩,fun h1=> ?_,fun h1=>⟨Oo,(k+1:Nat),Oe,⟨Oo, ?_⟩,Oo⟩⟩
  ·rw[h0,show(bif (Q.getD k Jjo).snd.fst.toList==s.toList then(Q.getD k Jjo).snd.snd else false)=true from h1];rfl
  ·rw[h0,show(bif (Q.getD k Jjo).snd.fst.toList==s.toList then(Q.getD k Jjo).snd.snd else false)=false from h1];rfl
 ·have hlt:¬k<Q.length:=by simpa using h
  have:k=Q.length:=by omega
  rw[hk.2,this,List.drop_length];rfl
abbrev K30:=K31.add Ko1
def Kd9 (t a b:Int):Bool:=bif (bif decide (a<t) then true else decide (b≤a)) then true else decide (48<b-a)
def J17:Con:={args:=[aI, .val true La],ress:=[Bo],owns:=[],pre:=fun(_,s,_)=>[0≤s.1∧s.1≤999999999,0≤s.2∧s.2≤999999999],spec:=fun(t,s,_)=>(Kd9 t s.1 s.2,())}
theorem Ko2:Ok Tryz.prog 268 J17:=okW K30 Tryz.f268 na fun xx=>by
 obtain⟨(t:Int),⟨(a:Int),(b:Int)⟩,_⟩:=xx
 refine(by kernel_rfl:(Kbx a→Kbx b→((bif decide (a<t) then true else decide (b≤a))=false→Iw (b-a))∧(bif bif decide (a<t) then true else decide (b≤a) then true else decide (48<b-a))=Kd9 t a b)=_).mp ?_
 delta Kbx Iw
 intro h1 h2
 exact⟨fun _=>Oo,rfl⟩
abbrev Juc:=K30.add Ko2
def Jcx (X:List Out):Prop:=(X.map fun x=>x.1).Nodup
theorem Jwy:∀{l:List Out} {k:Nat} {x:Out},(l.map fun x=>x.1).Nodup→x∈l→∃i,Vx (fun y:Out=>y.1.toList==x.1.toList) l k=((k+i:Nat):Int)∧i<l.length∧l.getD i Jax=x
 |[],_,_,_,h=>by cases h
 | y :: l, k, x, hn, h => by
  rw[List.map_cons,List.nodup_cons] at hn
  unfold Vx
  by_cases q:(y.1.toList==x.1.toList)=true
  ·have q1:=Vy q
   rw[if_pos q]
   rcases List.mem_cons.1 h with h|h
   ·exact⟨0,rfl,by simp,h.symm⟩
   ·exact absurd (q1▸List.mem_map_of_mem (f:=fun z:Out=>z.1) h) hn.1
  ·rw[if_neg q]
   rcases List.mem_cons.1 h with h|h
   ·subst h;exact absurd (beq_self_eq_true _) q
   ·obtain⟨i,h1,h2,h3⟩:=Jwy (k:=k+1) hn.2 h
    exact⟨i+1,by rw[h1];congr 1;omega,by simp;omega,h3⟩
theorem J49 {X:List Out} (h:Jcx X) {x:Out} (hx:x∈X):Le X x.1=x:=by
 obtain⟨i,h1,_,h3⟩:=Jwy (k:=0) h hx
 unfold Le J6
 rw[h1,Nat.zero_add,Int.toNat_natCast]
 exact h3
theorem Jbf {α:Type} {p:α→Bool}:∀{l:List α} {k:Nat},Vx p l k<0→∀x∈l,p x=false
 |[],_,_,x,hx=>by cases hx
 | y :: l, k, h, x, hx => by
  unfold Vx at h
  by_cases q:p y=true
  ·rw[if_pos q] at h;omega
  ·rw[if_neg q] at h
   rcases List.mem_cons.1 hx with hx|hx
   ·subst hx;simpa using q
   ·exact Jbf h x hx
theorem Jsx {X:List Out} {x:Out} (h:Jcx X) (hn:J6 X x.1<0):Jcx (X++[x]):=by
 unfold Jcx at h⊢
 rw[List.map_append,List.nodup_append]
 refine⟨h,by simp,fun a ha b hb=> ?_⟩
 obtain⟨y,hy,rfl⟩:=List.mem_map.1 ha
 have hb:b=x.1:=by simpa using hb
 subst hb
 intro e
 have:=Jbf hn y hy
 rw[e,beq_self_eq_true] at this
 cases this
theorem J48 {X:List Out} {s:ByteArray} {v:Int} (h:Jcx X) (hf:0≤J6 X s):Jcx (Jad X s v):=by
 unfold Jcx Jad at*
 have hl:=Ut (l:=X) (s:=s)
 rw[List.map_set]
 have:(X.map fun x=>x.1).set (J6 X s).toNat (Le X s).1=X.map fun x=>x.1:=by
  apply List.ext_getElem?
  intro i
  rw[List.getElem?_set]
  by_cases q:(J6 X s).toNat=i
  ·rw[if_pos q]
   subst q
   rw[if_pos (by rw[List.length_map];omega),List.getElem?_map]
   unfold Le
   rw[List.getD_eq_getElem?_getD,List.getElem?_eq_getElem Oo]
   rfl
  ·rw[if_neg q]
 rw[this]
 exact h
def V1 (r:Reg) (e:Ev):Int:=if decide (e.2.2.2.1.getD 0 0<r.1)=true then 22 else if Jv r e.2.1 e.2.2.1≠0 then Jv r e.2.1 e.2.2.1 else ckS r e
def Y3 (r:Reg) (e:Ev):Reg:=if decide (e.2.2.2.1.getD 0 0<r.1)=true then r else if Jv r e.2.1 e.2.2.1≠0 then r else if ckS r e≠0 then(e.2.2.2.1.getD 0 0,r.2) else Jq r e
def Dg:Con:={args:=[Hk,aEv],ress:=[(true,Jlu),I],owns:=[],pre:=fun(r,e,_)=>[Jj r,Jcx r.2.2.2.2.2.1,r.2.2.2.2.1.length<10000,Jb e=0,(e.2.1.toList==Ju.toList)=false],spec:=fun(r,e,_)=>(Y3 r e,V1 r e,())}
abbrev J6m:Ann:={X:=Unit,σ:=fun _=>⟨0,[],[]⟩,inv:=fun _=>True,mu:=fun _=>0,un:=7777}
abbrev Dh:Nat→Option Ann:=fun id=>if id=1000034 then some J6m else none
abbrev X7 (o:Option Ann):FuncId→Nat→Option Ann:=fun f id=>if f=226∨f=227 then(if id=1000073∨id=1000147∨id=1000195∨id=1000233∨id=1000052∨id=1000077∨id=1000097∨id=1000198 then some J6m else if id=1∨id=3 then o else none) else none
theorem Jtl {r:Reg} {k:ByteArray} {ns:List ByteArray} (h:Jv r k ns=0):Kn r ns (Jm k).1 0=false∧Kq r ns (Jm k).1 0=false:=by
 unfold Jv at h
 cases h1:Kn r ns (Jm k).1 0 with
 |true=>rw[h1] at h;cases h
 |false=>
  rw[h1,cond_false] at h
  cases h2:Kq r ns (Jm k).1 0 with
  |true=>rw[h2] at h;cases h
  |false=>exact⟨rfl,rfl⟩
theorem Jr2 {r:Reg} {e:Ev} (h:decide (e.2.2.2.1.getD 0 0<r.1)=true):Y3 r e=r∧V1 r e=22:=by unfold Y3 V1;rw[if_pos h,if_pos h];exact⟨rfl,rfl⟩
theorem Jnb {r:Reg} {e:Ev} (h:decide (e.2.2.2.1.getD 0 0<r.1)=false) (h2:Jv r e.2.1 e.2.2.1≠0):Y3 r e=r∧V1 r e=Jv r e.2.1 e.2.2.1:=by
 have a:¬decide (e.2.2.2.1.getD 0 0<r.1)=true:=by rw[h];simp
 unfold Y3 V1
 constructor
 ·rw[if_neg a,if_pos h2]
 ·rw[if_neg a,if_pos h2]
theorem Keo {r:Reg} {e:Ev} {c:Int} (h:decide (e.2.2.2.1.getD 0 0<r.1)=false) (h2:Jv r e.2.1 e.2.2.1=0) (h3:ckS r e=c) (h4:c≠0):Y3 r e=(e.2.2.2.1.getD 0 0,r.2)∧V1 r e=c:=by
 have a:¬decide (e.2.2.2.1.getD 0 0<r.1)=true:=by rw[h];simp
 have b:¬Jv r e.2.1 e.2.2.1≠0:=by rw[h2];simp
 have d:ckS r e≠0:=by rw[h3];exact h4
 unfold Y3 V1
 rw[if_neg a,if_neg a,if_neg b,if_neg b,if_pos d]
 exact⟨rfl,h3⟩
theorem Ken {r:Reg} {e:Ev} (h:decide (e.2.2.2.1.getD 0 0<r.1)=false) (h2:Jv r e.2.1 e.2.2.1=0) (h3:ckS r e=0):Y3 r e=Jq r e∧V1 r e=0:=by
 have a:¬decide (e.2.2.2.1.getD 0 0<r.1)=true:=by rw[h];simp
 have b:¬Jv r e.2.1 e.2.2.1≠0:=by rw[h2];simp
 have d:¬ckS r e≠0:=by rw[h3];simp
 unfold Y3 V1
 rw[if_neg a,if_neg a,if_neg b,if_neg b,if_neg d]
 exact⟨rfl,h3⟩
theorem Hu (n lo hi:Int):Km n lo hi=bif Xx n lo hi then 3 else 0:=rfl
theorem Kep {r:Reg} {e:Ev} (h:decide (e.2.2.2.1.getD 0 0<r.1)=false) (h2:(Jv r e.2.1 e.2.2.1 !=0)=false):V1 r e=ckS r e:=by
 have h2:Jv r e.2.1 e.2.2.1=0:=by simpa using h2
 unfold V1
 rw[if_neg (by rw[h];simp),if_neg (by rw[h2];simp)]
theorem Ktp {r:Reg} {e:Ev} (h:decide (e.2.2.2.1.getD 0 0<r.1)=false) (h2:(Jv r e.2.1 e.2.2.1 !=0)=false) (h3:ckS r e≠0):Y3 r e=(e.2.2.2.1.getD 0 0,r.2):=by
 have h2:Jv r e.2.1 e.2.2.1=0:=by simpa using h2
 exact(Keo h h2 rfl h3).1
theorem Ktq {r:Reg} {e:Ev} (h:decide (e.2.2.2.1.getD 0 0<r.1)=false) (h2:(Jv r e.2.1 e.2.2.1 !=0)=false) (h3:ckS r e=0):Y3 r e=Jq r e:=by
 have h2:Jv r e.2.1 e.2.2.1=0:=by simpa using h2
 exact(Ken h h2 h3).1
theorem Jfx {α:Type} {p:α→Bool} {d:α}:∀{l:List α} {k:Nat},0≤Vx p l k→∃i,Vx p l k=((k+i:Nat):Int)∧p (l.getD i d)=true
 |[],k,h=>by unfold Vx at h;exact absurd h Od
 | x :: l, k, h => by
  unfold Vx at h⊢
  by_cases q:p x=true
  ·rw[if_pos q];exact⟨0,rfl,q⟩
  ·rw[if_neg q] at h⊢
   obtain⟨i,h1,h2⟩:=Jfx (d:=d) h
   exact⟨i+1,by rw[h1];congr 1;omega,h2⟩
theorem Jma {X:List Out} {s:ByteArray} (h:0≤J6 X s):(Le X s).1=s:=by
 unfold J6 at h
 obtain⟨i,h1,h2⟩:=Jfx (d:=Jax) h
 have:Le X s=X.getD i Jax:=by unfold Le J6;rw[h1,Nat.zero_add];rfl
 rw[this]
 exact Vy h2
theorem Kr9 {M:List Met} {s:ByteArray} {h:Int}:decide (0≤Kw M s h)=(Do M s h).2:=by
 unfold Do
 by_cases q:0≤Kw M s h
 ·rw[if_pos q,decide_eq_true q]
 ·rw[if_neg q,decide_eq_false q]
theorem Jrz {f:Int→Bool} {a:Int} {k n:Nat} (h:k<n):Jpm f (a+(k:Int)) (n-k)=bif f (a+(k:Int)) then true else Jpm f (a+((k+1:Nat):Int)) (n-(k+1)):=by
 have hj:n-k=(n-(k+1))+1:=by omega
 rw[hj,Jpm]
 have:a+(k:Int)+1=a+((k+1:Nat):Int):=by push_cast;omega
 rw[this]
theorem Jr0 {f:Int→Bool} {a:Int} {k n:Nat} (h:n≤k):Jpm f a (n-k)=false:=by
 have hj:n-k=0:=by omega
 rw[hj];rfl
theorem K7f (a b p:Int):decide (min a b<p)=bif decide (a<p) then true else decide (b<p):=by
 by_cases h:a<p
 ·rw[decide_eq_true h];exact decide_eq_true Oo
 ·rw[decide_eq_false h,cond_false]
  by_cases h2:b<p
  ·rw[decide_eq_true h2];exact decide_eq_true Oo
  ·rw[decide_eq_false h2];exact decide_eq_false Oo
theorem Kse {α:Type} {l:List α} {p:α→Bool}:decide ((0:Int)<(l.filter p).length)=l.any p:=by
 induction l with
 |nil=>rfl
 |cons x l ih=>
  rw[List.filter_cons,List.any_cons]
  cases h:p x with
  |true=>rw[if_pos rfl,Bool.true_or];exact decide_eq_true (by rw[List.length_cons];omega)
  |false=>rw[if_neg (by simp),Bool.false_or];exact ih
theorem J58 {X:List Out} {Q:List Per} {u:Int} (hu:Jcx X) (hp:∀p∈Q,0≤J6 X p.2.1):decide ((0:Int)<((Dm Q).filter fun p=>decide ((Le X p.2.1).2.2.1.2≤u)).length)=X.any fun x=>decide (x.2.2.1.2≤u)&&Yn Q x.1:=by
 rw[Kse,Bool.eq_iff_iff,List.any_eq_true,List.any_eq_true]
 constructor
 ·rintro⟨p,h1,h2⟩
  have hq:=Jmb h1
  have h3:=hp p hq
  refine⟨Le X p.2.1,Jv4 h3, ?_⟩
  rw[h2,Bool.true_and]
  unfold Yn
  rw[Kse,List.any_eq_true]
  exact⟨p,h1,by rw[Jma h3,beq_self_eq_true]⟩
 ·rintro⟨x,h1,h2⟩
  rw[Bool.and_eq_true] at h2
  obtain⟨h2,h3⟩:=h2
  unfold Yn at h3
  rw[Kse,List.any_eq_true] at h3
  obtain⟨p,h4,h5⟩:=h3
  have h6:p.2.1=x.1:=Vy h5
  exact⟨p,h4,by rw[h6,J49 hu h1];exact h2⟩
theorem X2 {X:List Ord} {s:ByteArray} (h:0≤Kd X s):(Vk X s).1=s:=by
 unfold Kd at h
 obtain⟨i,h1,h2⟩:=Jfx (d:=Kb) h
 have:Vk X s=X.getD i Kb:=by unfold Vk Kd;rw[h1,Nat.zero_add];rfl
 rw[this]
 exact Vy h2
section
variable {r:Reg} {e:Ev}
theorem lfT (h:decide (e.2.2.2.1.getD 0 0<r.1)=true):True∧r=Y3 r e∧22=V1 r e:=⟨trivial,(Jr2 h).1.symm,(Jr2 h).2.symm⟩
theorem lfN (h:decide (e.2.2.2.1.getD 0 0<r.1)=false) (h2:(Jv r e.2.1 e.2.2.1 !=0)=true):True∧r=Y3 r e∧Jv r e.2.1 e.2.2.1=V1 r e:=⟨trivial,(Jnb h (bne_iff_ne.mp h2)).1.symm,(Jnb h (bne_iff_ne.mp h2)).2.symm⟩
theorem lfA {c:Int} {R:Reg} (h:decide (e.2.2.2.1.getD 0 0<r.1)=false) (h2:(Jv r e.2.1 e.2.2.1 !=0)=false) (h3:ckS r e=c) (h4:(c≠0∧(e.2.2.2.1.getD 0 0,r.2)=R)∨(c=0∧Jq r e=R)):True∧R=Y3 r e∧c=V1 r e:=by
 rcases h4 with⟨h4,rfl⟩|⟨rfl,rfl⟩
 ·exact⟨trivial,(Ktp h h2 (by rw[h3];exact h4)).symm,((Kep h h2).trans h3).symm⟩
 ·exact⟨trivial,(Ktq h h2 h3).symm,((Kep h h2).trans h3).symm⟩
theorem Jzq (hr:Jj r) (hc:Jb e=0):e.2.2.1.length=(Jm e.2.1).1.length∧(e.2.2.2.1.length:Int)=(Jm e.2.1).2.1∧r.2.2.1.length≤6∧r.2.2.2.1.length≤32∧r.2.2.2.2.2.1.length≤16∧r.2.2.2.2.2.2.length≤16∧∀i,i<e.2.2.2.1.length→(0≤e.2.2.2.1.getD i 0∧e.2.2.2.1.getD i 0≤999999999):=
 have hE:=Ud hc
 ⟨hE.nn,hE.nv,hr.nS,hr.nO,hr.nX,hr.nQ,fun _ hi=>hE.val _ (Je hi)⟩
theorem fcN {k ns} (a:(Jv r k ns !=0)=false):Kn r ns (Jm k).1 0=false:=(Jtl (by simpa using a)).1
end
theorem K76 (a b:Bool):(a&&b)=bif a then b else false:=by cases a<;>rfl
theorem rcb:({data:={toList:=[]}}:ByteArray)=Ja:=congrArg (fun x=>x) rfl
theorem rcS (S s):List.getD S (Jn S s).toNat (Ja,0,0)=Yi S s:=congrArg (fun x=>x) rfl
theorem rcO (O s):List.getD O (Kd O s).toNat (Ja,Ja,Ja,(0,0),0,0,0)=Vk O s:=congrArg (fun x=>x) rfl
theorem rcX (X s):List.getD X (J6 X s).toNat (Ja,Ja,(0,0),0)=Le X s:=congrArg (fun x=>x) rfl
theorem rcQ (Q s):List.getD Q (Va Q s).toNat (Ja,Ja,false)=Jnh Q s:=congrArg (fun x=>x) rfl
def Z46 (a:List Met):=List.length a<10000
def Jin (a:Li) (b:Int):=decide (Z91 a<b)
def Jim (a:List Per):=(0+List.length a)*40≤140737488355328
def Jil (a:List Out):=(0+List.length a)*56≤140737488355328
def Jik (a:List Met):=(0+List.length a)*40≤140737488355328
def Jij (a:List Sta):=(0+List.length a)*32≤140737488355328
def Jii (a:List Ord):=(0+List.length a)*88≤140737488355328
def Jdx (a:Li) (b:Int) (c:List Sta) (d:List Ord) (e:List Met) (f:List Out) (g:List Per):=(Z91 a,b,c,d,e,f,g)
def Jum (a b:Int) (c:List Sta) (d:List Ord) (e:List Met) (f:List Out) (g:List Per) (h:Ls):=Jy a b c d e f g∧Sf true (List.length h=1)
variable (T:TypeId) (E C:List Ev) (G:List Reg) (tk st:Int) (S:List Sta) (O:List Ord) (M:List Met) (X:List Out) (Q:List Per) (n:Int) (ns:List ByteArray) (vs:List Int) (tx:ByteArray)
theorem Jis:wpFG Tryz.prog Juc.g Dh (X7 (none)) (Sx.look ([(225,Tryz.f225),(226,Tryz.f226),(227,Tryz.f227)]:List (Nat×Func))) Tryz.f132 Dg ((tk,st,S,O,M,X,Q),(n,Jw,ns,vs,tx),()):=by
 refine(by kernel_rfl:(Jy tk st S O M X Q→Jcx X→Z46 M→Jb (Z26 n ns vs tx)=0→Lb Jw Ju=false→Kx vs∧Br (Jin vs tk) (Sf true (Z64 tk st S O M X Q=Y3 (Z64 tk st S O M X Q) (Z26 n ns vs tx)∧22=V1 (Z64 tk st S O M X Q) (Z26 n ns vs tx))) (Jum tk st S O M X Q ns∧Br (Jv (Z64 tk st S O M X Q) Jw ns !=0) (Sf true (Z64 tk st S O M X Q=Y3 (Z64 tk st S O M X Q) (Z26 n ns vs tx)∧Jv (Z64 tk st S O M X Q) Jw ns=V1 (Z64 tk st S O M X Q) (Z26 n ns vs tx))) (Jij S∧Jii O∧Jik M∧Jil X∧Jim Q∧Z93 vs∧Br (Xx (Zo vs) 1 1000) (Kx vs∧Sf true (Jdx vs st S O M X Q=Y3 (Z64 tk st S O M X Q) (Z26 n ns vs tx)∧3=V1 (Z64 tk st S O M X Q) (Z26 n ns vs tx))) (Br (decide (6≤Ln ([]++S))) (Kx vs∧Sf true (Jdx vs st S O M X Q=Y3 (Z64 tk st S O M X Q) (Z26 n ns vs tx)∧5=V1 (Z64 tk st S O M X Q) (Z26 n ns vs tx))) (Klc ns vs S∧Kx vs∧Sf true ((Z91 vs,st,Kl5 S ns vs,O,M,X,Q)=Y3 (Z64 tk st S O M X Q) (Z26 n ns vs tx)∧0=V1 (Z64 tk st S O M X Q) (Z26 n ns vs tx)))))))=_).mp ?_
 delta Z26 Z28 Z34 Z46 Z64 Z91 Z92 Z93 Kx Zo Vb Jy Jin Jim Jil Jik Jij Jii Jdx Jum Kl5 Klc Br Bd T2 Tw Sf Ln B0 Lb Jw Ju
 intro hr hu hm hc _
 obtain⟨hn,hv,nS,nO,nX,nQ,hx⟩:=Jzq hr hc
 simp only[Kp,List.length_cons,List.length_nil] at hn hv nS nO nX nQ hx
 have cE:ckS (tk,st,S,O,M,X,Q) (n,Jw,ns,vs,tx)=Jm4 S vs:=by simp only[ckS,Kp]
 have sE:Jq (tk,st,S,O,M,X,Q) (n,Jw,ns,vs,tx)=(vs.getD 0 0,(Jbm (tk,st,S,O,M,X,Q) (n,Jw,ns,vs,tx)).2):=by simp only[Jq,doS,Kp]
 simp only[List.nil_append,rcb,rcS,rcO,rcX,rcQ,Prod.eta]
 repeat' first|exact lfT ‹_›|exact lfN ‹_› ‹_›|exact lfA ‹_› ‹_› (cE.trans (by clear cE sE hx hc;simp only[Jm4,Ji,Hu,List.nil_append, *,cond_true,cond_false,reduceIte,decide_true,decide_false,Bool.not_true,Bool.not_false,Int.reduceEq,Int.reduceNe,ne_eq,not_false_eq_true,not_true_eq_false];first|done|rfl|decide)) (by first|exact .inl ⟨Od,rfl⟩|exact .inl ⟨bne_iff_ne.mp ‹_›,rfl⟩|exact .inr ⟨rfl,sE.trans (by first|rfl|simp only[Jbm,List.nil_append])⟩)|apply And.intro|intro _
 all_goals first|omega|trivial|assumption
def K2a (a:List Sta) (b:Ls):=Gt ([]++a) (J4w a b) Z14
theorem Jnv:wpFG Tryz.prog Juc.g Dh (X7 (none)) (Sx.look ([(225,Tryz.f225),(226,Tryz.f226),(227,Tryz.f227)]:List (Nat×Func))) Tryz.f132 Dg ((tk,st,S,O,M,X,Q),(n,Uf,ns,vs,tx),()):=by
 refine(by kernel_rfl:(Jy tk st S O M X Q→Jcx X→Z46 M→Jb (Z15 n ns vs tx)=0→Lb Uf Ju=false→Kx vs∧Br (Jin vs tk) (Sf true (Z64 tk st S O M X Q=Y3 (Z64 tk st S O M X Q) (Z15 n ns vs tx)∧22=V1 (Z64 tk st S O M X Q) (Z15 n ns vs tx))) (Jum tk st S O M X Q ns∧Br (Jv (Z64 tk st S O M X Q) Uf ns !=0) (Sf true (Z64 tk st S O M X Q=Y3 (Z64 tk st S O M X Q) (Z15 n ns vs tx)∧Jv (Z64 tk st S O M X Q) Uf ns=V1 (Z64 tk st S O M X Q) (Z15 n ns vs tx))) (Jij S∧Jii O∧Jik M∧Jil X∧Jim Q∧Z93 vs∧Br (decide (1000<Zo vs)) (Kx vs∧Sf true (Jdx vs st S O M X Q=Y3 (Z64 tk st S O M X Q) (Z15 n ns vs tx)∧3=V1 (Z64 tk st S O M X Q) (Z15 n ns vs tx))) (T2 (Z92 ns) (Z59 S∧T2 (Z28 vs) (Tw (Bd (J4w S ns) (Ln ([]++S)))))∧Kx vs∧Sf true ((Z91 vs,st,List.set ([]++S) (Int.toNat (J4w S ns)) ((K2a S ns).1,(K2a S ns).2.1,Zo vs),O,M,X,Q)=Y3 (Z64 tk st S O M X Q) (Z15 n ns vs tx)∧0=V1 (Z64 tk st S O M X Q) (Z15 n ns vs tx))))))=_).mp ?_
 delta Z14 Z15 Z28 Z34 Z46 Z59 Z64 Z91 Z92 Z93 Kx Zo Vb Jy J4w Jin Jim Jil Jik Jij Jii Jdx Jum K2a Br Bd T2 Tw Sf Ln Gt B0 Lb Uf Ju
 intro hr hu hm hc _
 obtain⟨hn,hv,nS,nO,nX,nQ,hx⟩:=Jzq hr hc
 simp only[U6,List.length_cons,List.length_nil] at hn hv nS nO nX nQ hx
 have cE:ckS (tk,st,S,O,M,X,Q) (n,Uf,ns,vs,tx)=Jpd vs:=by simp only[ckS,U6]
 have sE:Jq (tk,st,S,O,M,X,Q) (n,Uf,ns,vs,tx)=(vs.getD 0 0,(F1 (tk,st,S,O,M,X,Q) (n,Uf,ns,vs,tx)).2):=by simp only[Jq,doS,U6]
 have hp:decide (vs.getD 1 0<0)=false:=decide_eq_false (by have:=hx 1 Oo;omega)
 have hF:(Jv (tk,st,S,O,M,X,Q) Uf ns !=0)=false→(0≤Jn S (ns.getD 0 Ja)∧Jn S (ns.getD 0 Ja)<S.length):=fun a=>by
  have z:=fcN a
  rw[U6] at z
  obtain⟨k0,z⟩:=Jl z
  exact⟨Jq6 (k0 rfl),Kt⟩
 simp only[List.nil_append,rcb,rcS,rcO,rcX,rcQ,Prod.eta]
 repeat' first|exact lfT ‹_›|exact lfN ‹_› ‹_›|exact lfA ‹_› ‹_› (cE.trans (by clear cE sE hF hx hc;simp only[Jpd,Km,Bool.false_or,Hu,List.nil_append, *,cond_true,cond_false,reduceIte,decide_true,decide_false,Bool.not_true,Bool.not_false,Int.reduceEq,Int.reduceNe,ne_eq,not_false_eq_true,not_true_eq_false];first|done|rfl|decide)) (by first|exact .inl ⟨Od,rfl⟩|exact .inl ⟨bne_iff_ne.mp ‹_›,rfl⟩|exact .inr ⟨rfl,sE.trans (by first|rfl|simp only[F1,List.nil_append]|simp only[F1,X2 (hF ‹_›).1])⟩)|apply And.intro|intro _
 all_goals first|omega|trivial|assumption|(have:=hF ‹_›;omega)
abbrev Jig (tk st:Int) (S:List Sta) (O:List Ord) (M:List Met) (X:List Out) (Q:List Per) (n:Int) (ns:List ByteArray) (vs:List Int) (tx:ByteArray):Ann:={X:=Nat,σ:=fun k=>⟨30,[(2, .one (.ptr 25 0)),(3, .one (.ptr 26 0)),(4, .one (.ptr 27 0)),(6, .one (.sl 6)),(7, .one (.ptr 28 0)),(8, .one (.int .i64 (vs.getD 1 0+k)))],[(5, .imm 9 .str ns),(6, .imm 3 sI vs),(8, .box 67 [.int .i64 n, .str Ki, .sl 5, .sl 6, .str tx]),(9, .box 37 J0f),(23, .box 37 [.int .i64 tk, .int .i64 st, .sl 14, .sl 16, .sl 18, .sl 20, .sl 22]),(24, .sus [(3, .one (.ptr 8 0)),(4, .one (.ptr 9 0)),(7, .one (.ptr 23 0))]),(25, .box 37 [.int .i64 tk, .int .i64 st, .sl 14, .sl 16, .sl 18, .sl 20, .sl 22]),(26, .box 67 [.int .i64 n, .str Ki, .sl 5, .sl 6, .str tx]),(27, .box 37 J0f),(28, .box 117 [.int .i64 (vs.getD 1 0), .int .i64 (vs.getD 2 0)]),(14, .own 114 Ft S),(16, .own 119 Lt O),(18, .own 121 Jaw M),(20, .own 123 Zw X),(22, .own 125 Hw Q)]⟩,inv:=fun k=>k≤(vs.getD 2 0-vs.getD 1 0).toNat∧Jtv S O X (n,Ki,ns,vs,tx)=Jpm (fun h=>decide (min (Uz S O X (ns.getD 1 Ja) h) (Uz S O X (ns.getD 2 Ja) h)<vs.getD 3 0)) (vs.getD 1 0+k) ((vs.getD 2 0-vs.getD 1 0).toNat-k),mu:=fun k=>(vs.getD 2 0-vs.getD 1 0).toNat-k}
def Juo (a:Li) (b:Nat):=Zo a+Nc b
def Khp (a:Li) (b:Nat):=Juo a b+1
def Km5 (a:Li):=Int.toNat (Z95 a-Zo a)
def Km1 (a:Li) (b:Nat):=Zo a=Juo a b
def Kax (a:Li) (b:Nat):=Km5 a-b
def Kmx (a:Nat) (b:Li):=a≤Km5 b
def Kml (a:Li) (b:Nat):=decide (Juo a b<Z95 a)
def Klq (a:Li) (b c:Nat):=Khp a b=Juo a c
def Klp (a:Li):=Kd9 (Z91 a) (Zo a) (Z95 a)
def Kap (a:Li) (b:Int) (c:List Sta) (d:List Ord) (e:List Met) (f:List Out) (g:List Per) (h i:Int) (j:Ls) (k:Bt):=Jdx a b c d e f g=Y3 (Z64 h b c d e f g) (Z13 i j a k)
def Kgd (a:List Sta) (b:List Ord) (c:List Out) (d:Ls) (e:Li) (f:Nat):=decide (Uz a b c (Lu d) (Juo e f)<Z86 e)=false
def Kj0 (a:Li) (b c:Nat):=Kax a b<Kax a c
def Kjg (a:Li):=T2 (Z34 a) ((0≤Zo a∧Zo a≤999999999)∧0≤Z95 a∧Z95 a≤999999999)
def Kiz (a:Nat) (b:Li) (c:List Sta) (d:List Ord) (e:List Out) (f:Int) (g:Ls) (h:Bt):=Kmx a b∧Jtv c d e (Z13 f g b h)=Jpm (fun(h:Int)=>decide (min (Uz c d e (Jkx g) h) (Uz c d e (J8s g) h)<Z86 b)) (Juo b a) (Kax b a)
def Kiy (a:Bt) (b:Li) (c:List Sta) (d:List Ord) (e:List Met) (f:List Out) (g:List Per):=Sf a (Si 0 (Si 0 (Sf Vs (Sf Vs (Sf Vs (Sf Vs (Sf Vs (Si (Zo b) (Si (Z95 b) (Sf c (Sf d (Sf e (Sf f (g=g))))))))))))))
def J9p (a:Ls) (b:Li) (c:Int) (d:Bt) (e f:Int) (g:List Sta) (h:List Ord) (i:List Met) (j:List Out) (k:List Per):=Sf a (Sf b (Si c (Sf Ki (Sf d (Si 0 (Si 0 (Sf Vs (Sf Vs (Sf Vs (Sf Vs (Sf Vs (Si e (Si f (Si e (Si f (Si c (Sf Ki (Kiy d b g h i j k))))))))))))))))))
theorem Jnw:wpFG Tryz.prog Juc.g Dh (X7 (some (Jig tk st S O M X Q n ns vs tx))) (Sx.look ([(225,Tryz.f225),(226,Tryz.f226),(227,Tryz.f227)]:List (Nat×Func))) Tryz.f132 Dg ((tk,st,S,O,M,X,Q),(n,Ki,ns,vs,tx),()):=by
 refine(by kernel_rfl:(Jy tk st S O M X Q→Jcx X→Z46 M→Jb (Z13 n ns vs tx)=0→Lb Ki Ju=false→Kx vs∧Br (Jin vs tk) (Sf true (Z64 tk st S O M X Q=Y3 (Z64 tk st S O M X Q) (Z13 n ns vs tx)∧22=V1 (Z64 tk st S O M X Q) (Z13 n ns vs tx))) ((Jy tk st S O M X Q∧Sf true (Jur ns))∧Br (Jv (Z64 tk st S O M X Q) Ki ns !=0) (Sf true (Z64 tk st S O M X Q=Y3 (Z64 tk st S O M X Q) (Z13 n ns vs tx)∧Jv (Z64 tk st S O M X Q) Ki ns=V1 (Z64 tk st S O M X Q) (Z13 n ns vs tx))) (Jij S∧Jii O∧Jik M∧Jil X∧Jim Q∧Ka4 vs∧T2 (Z97 ns) (Tw (J40 ns))∧Br (Knd ns) (Kx vs∧Sf true (Kap vs st S O M X Q tk n ns tx∧24=V1 (Z64 tk st S O M X Q) (Z13 n ns vs tx))) (Kjg vs∧Br (Klp vs) (Kx vs∧Sf true (Kap vs st S O M X Q tk n ns tx∧14=V1 (Z64 tk st S O M X Q) (Z13 n ns vs tx))) (Z88 vs∧Br (Xx (Z86 vs) 1 1000) (Kx vs∧Sf true (Kap vs st S O M X Q tk n ns tx∧3=V1 (Z64 tk st S O M X Q) (Z13 n ns vs tx))) (∃(x:Nat),(Km1 vs x∧J9p ns vs n tx tk st S O M X Q)∧Kiz x vs S O X n ns tx∧∀(x:Nat),Kiz x vs S O X n ns tx→Br (Kml vs x) (T2 (Z97 ns) (Jy tk st S O M X Q∧J4q S ns∧T2 (Z29 vs) (T2 (Kgd S O X ns vs x→J40 ns) ((Kgd S O X ns vs x→Jy tk st S O M X Q)∧(Kgd S O X ns vs x→0≤Jn S (Z98 ns))∧Tw (Kgd S O X ns vs x→Z29 vs))))∧Br (bif decide (Uz S O X (Lu ns) (Juo vs x)<Z86 vs) then true else decide (Uz S O X (Z98 ns) (Juo vs x)<Z86 vs)) (Kx vs∧Sf true (Kap vs st S O M X Q tk n ns tx∧4=V1 (Z64 tk st S O M X Q) (Z13 n ns vs tx))) (Iw (Khp vs x)∧∃(y:Nat),(Klq vs x y∧J9p ns vs n tx tk st S O M X Q)∧Kiz y vs S O X n ns tx∧Kj0 vs y x)) (Br (decide (32≤Ln O)) (Kx vs∧Sf true (Kap vs st S O M X Q tk n ns tx∧5=V1 (Z64 tk st S O M X Q) (Z13 n ns vs tx))) (T2 (Z92 ns) (T2 (Z97 ns) (T2 (J40 ns) (T2 (Z29 vs) (T2 (Z97 ns) (Z59 S∧T2 (Bd (Jz8 S ns) (Ln S)) ((List.length O+1)*88≤140737488355328))))))∧Kx vs∧Sf true ((Z91 vs,st,S,O++[(Vb ns,Lu ns,Z98 ns,Kaz vs,Z86 vs,(Gt S (Jz8 S ns) Z14).2.2,Z69)],M,X,Q)=Y3 (Z64 tk st S O M X Q) (Z13 n ns vs tx)∧0=V1 (Z64 tk st S O M X Q) (Z13 n ns vs tx))))))))))=_).mp ?_
 delta Z13 Z14 Z28 Z29 Z31 Z34 Z46 Z59 Z64 Z69 Z86 Z88 Z91 Z92 Z95 Z97 Z98 Lu Kx Zo J40 Vb Jur Jkx J8s Jy Vs Jz8 Juo Jin Jim Jil Jik Jij Jii J4q Khp Jdx Ka4 Kaz Knd Km5 Km1 Kax Kmx Kml Klq Klp Kap Kgd Kj0 Kjg Kiz Kiy J9p Br Iw Bd T2 Tw Sf Si Ln Nc Gt B0 Lb Ki Ju
 intro hr hu hm hc _
 obtain⟨hn,hv,nS,nO,nX,nQ,hx⟩:=Jzq hr hc
 simp only[Uh,List.length_cons,List.length_nil] at hn hv nS nO nX nQ hx
 have cE:ckS (tk,st,S,O,M,X,Q) (n,Ki,ns,vs,tx)=Jbs S O X (n,Ki,ns,vs,tx):=by simp only[ckS,Uh]
 have sE:Jq (tk,st,S,O,M,X,Q) (n,Ki,ns,vs,tx)=(vs.getD 0 0,(F5 (tk,st,S,O,M,X,Q) (n,Ki,ns,vs,tx)).2):=by simp only[Jq,doS,Uh]
 have hF:(Jv (tk,st,S,O,M,X,Q) Ki ns !=0)=false→(0≤Jn S (ns.getD 1 Ja)∧Jn S (ns.getD 1 Ja)<S.length)∧(0≤Jn S (ns.getD 2 Ja)∧Jn S (ns.getD 2 Ja)<S.length):=fun a=>by
  have z:=fcN a
  rw[Uh] at z
  obtain⟨k0,z⟩:=Jl z
  obtain⟨k1,z⟩:=Jl z
  obtain⟨k2,z⟩:=Jl z
  exact⟨⟨Jq6 (k1 rfl),Kt⟩,⟨Jq6 (k2 rfl),Kt⟩⟩
 have v1:=hx 1 Oo
 have v2:=hx 2 Oo
 have v3:=hx 3 Oo
 have pE:Zs (n,Ki,ns,vs,tx)=bif Kd9 (vs.getD 0 0) (vs.getD 1 0) (vs.getD 2 0) then 14 else 0:=rfl
 simp only[List.nil_append,rcb,rcS,rcO,rcX,rcQ,Prod.eta]
 repeat' first|exact lfT ‹_›|exact lfN ‹_› ‹_›|exact lfA ‹_› ‹_› (cE.trans (by clear cE sE hF hx hc;simp only[Jbs,Jbr,Ji,Hu,List.nil_append, *,cond_true,cond_false,reduceIte,decide_true,decide_false,Bool.not_true,Bool.not_false,Int.reduceEq,Int.reduceNe,ne_eq,not_false_eq_true,not_true_eq_false];first|done|rfl|decide)) (by first|exact .inl ⟨Od,rfl⟩|exact .inl ⟨bne_iff_ne.mp ‹_›,rfl⟩|exact .inr ⟨rfl,sE.trans (by first|rfl|(simp only[F5,List.nil_append];done)|simp only[F5,X2 (hF ‹_›).1])⟩)|(refine⟨(0:Nat),Oe,⟨Nat.zero_le _,by simp[Zf,Vt,Jtv]⟩,fun(k:Nat) hk=>⟨fun h1=> ?_,fun h1=> ?_⟩⟩;obtain⟨k1,k2⟩:=hk;replace h1:=of_decide_eq_true h1;rw[Jrz Oo] at k2;rw[K7f] at k2;rotate_left;obtain⟨k1,k2⟩:=hk;replace h1:=of_decide_eq_false h1;rw[Jr0 Oo] at k2)|(refine⟨(k+1:Nat),Oe,⟨Oo, ?_⟩,Oo⟩;rw[k2,show(bif decide (Uz S O X (ns.getD 1 Ja) (vs.getD 1 0+k)<vs.getD 3 0) then true else decide (Uz S O X (ns.getD 2 Ja) (vs.getD 1 0+k)<vs.getD 3 0))=false from ‹_›];rfl)|apply And.intro|intro _
 all_goals first|omega|trivial|assumption|(have:=hF ‹_›;omega)
def Khi (a:List Ord) (b:Ls):=Bd (Jsg a b) (Ln ([]++a))
def Kmz (a:List Ord) (b:Ls):=Tw (Khi a b)
def Kao (a:Li) (b:Int) (c:List Sta) (d:List Ord) (e:List Met) (f:List Out) (g:List Per) (h i:Int) (j:Ls) (k:Bt):=Jdx a b c d e f g=Y3 (Z64 h b c d e f g) (Z10 i j a k)
def Kkr (a:List Ord) (b:Ls):=Gt ([]++a) (Jsg a b) Jen
def Kkq (a:List Ord) (b:Ls):=(Kkr a b).2
def Kak (a:List Ord) (b:Ls):=(Kkr a b).1
def Kkn (a:List Ord) (b:Ls):=(Kkq a b).1
def Kkm (a:List Ord) (b:Ls):=(Kkq a b).2
def Kkj (a:List Ord) (b:Ls):=(Kkm a b).2
def Kki (a:List Ord) (b:Ls):=(Kkm a b).1
def Kkh (a:List Ord) (b:Ls):=(Kkj a b).1
def Kkg (a:List Ord) (b:Ls):=(Kkj a b).2
def Kgb (a:List Ord) (b:Ls):=(Kkg a b).1
def Kga (a:List Ord) (b:Ls):=(Kkg a b).2
def Kke (a:List Ord) (b:Ls):=(Kga a b).2
def Kf3 (a:List Ord) (b:Ls):=E2 (Kkh a b)
def Kxl (a:List Ord) (b:Ls) (c:Li):=decide (Kgb a b<Z95 c)
def Kxb (a:List Ord) (b:Ls) (c:Li):=Kxl a b c=false
theorem Jnx:wpFG Tryz.prog Juc.g Dh (X7 (none)) (Sx.look ([(225,Tryz.f225),(226,Tryz.f226),(227,Tryz.f227)]:List (Nat×Func))) Tryz.f132 Dg ((tk,st,S,O,M,X,Q),(n,K9,ns,vs,tx),()):=by
 refine(by kernel_rfl:(Jy tk st S O M X Q→Jcx X→Z46 M→Jb (Z10 n ns vs tx)=0→Lb K9 Ju=false→Kx vs∧Br (Jin vs tk) (Sf true (Z64 tk st S O M X Q=Y3 (Z64 tk st S O M X Q) (Z10 n ns vs tx)∧22=V1 (Z64 tk st S O M X Q) (Z10 n ns vs tx))) (Jum tk st S O M X Q ns∧Br (Jv (Z64 tk st S O M X Q) K9 ns !=0) (Sf true (Z64 tk st S O M X Q=Y3 (Z64 tk st S O M X Q) (Z10 n ns vs tx)∧Jv (Z64 tk st S O M X Q) K9 ns=V1 (Z64 tk st S O M X Q) (Z10 n ns vs tx))) (Jij S∧Jii O∧Jik M∧Jil X∧Jim Q∧T2 (Z92 ns) (Z55 O∧Kmz O ns)∧T2 (Z28 vs) (Kx vs)∧Br (Km4 vs) (Kx vs∧Sf true (Kao vs st S O M X Q tk n ns tx∧11=V1 (Z64 tk st S O M X Q) (Z10 n ns vs tx))) (Z93 vs∧Br (!Kk (Kf3 O ns) (Zo vs)) (Kx vs∧Sf true (Kao vs st S O M X Q tk n ns tx∧14=V1 (Z64 tk st S O M X Q) (Z10 n ns vs tx))) (T2 (Z28 vs) (Z69≤Kke O ns)∧Br (!Jh (Kak O ns,Kkn O ns,Kki O ns,Kf3 O ns,Kgb O ns,E2 (Kga O ns)) (Zo vs)) (Kx vs∧Sf true (Kao vs st S O M X Q tk n ns tx∧23=V1 (Z64 tk st S O M X Q) (Z10 n ns vs tx))) (T2 (Z28 vs) (Jy tk st S O M X Q)∧Br (Do M (Kak O ns) (Zo vs)).2 (Kx vs∧Sf true (Kao vs st S O M X Q tk n ns tx∧9=V1 (Z64 tk st S O M X Q) (Z10 n ns vs tx))) (T2 (Z31 vs) (T2 (Kxb O ns vs→Z29 vs) (Tw (Kxb O ns vs→Z31 vs)))∧Br (bif Kxl O ns vs then true else Km3 vs) (Kx vs∧Sf true (Kao vs st S O M X Q tk n ns tx∧3=V1 (Z64 tk st S O M X Q) (Z10 n ns vs tx))) (Kkd vs M∧Kx vs∧Sf true ((Z91 vs,st,S,O,M++[(Kak O ns,Klw vs)],X,Q)=Y3 (Z64 tk st S O M X Q) (Z10 n ns vs tx)∧0=V1 (Z64 tk st S O M X Q) (Z10 n ns vs tx))))))))))=_).mp ?_
 delta Z10 Z28 Z29 Z31 Z34 Z46 Z55 Z64 Z69 Z71 Z86 Z91 Z92 Z93 Z95 Kx Zo Vb Jy Jsg Jin Jim Jil Jik Jij Jii Jdx Jen Khi Km4 Km3 Kmz Jum Klw Kao Kkr Kkq Kak Kkn Kkm Kkj Kki Kkh Kkg Kgb Kga Kke Kkd Kf3 Kxl Kxb Br Bd T2 Tw Sf Ln Gt B0 Lb E2 K9 Ju
 intro hr hu hm hc _
 obtain⟨hn,hv,nS,nO,nX,nQ,hx⟩:=Jzq hr hc
 simp only[Ui,List.length_cons,List.length_nil] at hn hv nS nO nX nQ hx
 have cE:ckS (tk,st,S,O,M,X,Q) (n,K9,ns,vs,tx)=Jko O M ns vs:=by simp only[ckS,Ui]
 have sE:Jq (tk,st,S,O,M,X,Q) (n,K9,ns,vs,tx)=(vs.getD 0 0,(F6 (tk,st,S,O,M,X,Q) (n,K9,ns,vs,tx)).2):=by simp only[Jq,doS,Ui]
 have hF:(Jv (tk,st,S,O,M,X,Q) K9 ns !=0)=false→(0≤Kd O (ns.getD 0 Ja)∧Kd O (ns.getD 0 Ja)<O.length):=fun a=>by
  have z:=fcN a
  rw[Ui] at z
  obtain⟨k0,z⟩:=Jl z
  exact⟨Jzt (k0 rfl),Uj⟩
 have hP:(Jv (tk,st,S,O,M,X,Q) K9 ns !=0)=false→-1≤(Vk O (ns.getD 0 Ja)).2.2.2.2.2.2:=fun a=>(hr.ord _ (Jag (hF a).1)).trip.1
 simp only[List.nil_append,rcb,rcS,rcO,rcX,rcQ,Prod.eta]
 repeat' first|exact lfT ‹_›|exact lfN ‹_› ‹_›|exact lfA ‹_› ‹_› (cE.trans (by have hp:=hP ‹_›;clear cE sE hF hP hx hc;simp only[Jko,Kr9,Ji,Hu,List.nil_append, *,cond_true,cond_false,reduceIte,decide_true,decide_false,Bool.not_true,Bool.not_false,Int.reduceEq,Int.reduceNe,ne_eq,not_false_eq_true,not_true_eq_false];first|done|rfl|decide)) (by first|exact .inl ⟨Od,rfl⟩|exact .inl ⟨bne_iff_ne.mp ‹_›,rfl⟩|exact .inr ⟨rfl,sE.trans (by first|rfl|(simp only[F6,List.nil_append];done)|simp only[F6,X2 (hF ‹_›).1])⟩)|apply And.intro|intro _
 all_goals first|omega|trivial|assumption|exact hP ‹_›|(have:=hF ‹_›;omega)
def Kyb (a:List Ord) (b:Ls):=decide (0≤Kke a b)
def Kxw (a:List Ord) (b:Ls):=Kyb a b=false
theorem Jsq:wpFG Tryz.prog Juc.g Dh (X7 (none)) (Sx.look ([(225,Tryz.f225),(226,Tryz.f226),(227,Tryz.f227)]:List (Nat×Func))) Tryz.f132 Dg ((tk,st,S,O,M,X,Q),(n,V2,ns,vs,tx),()):=by
 refine(by kernel_rfl:(Jy tk st S O M X Q→Jcx X→Z46 M→Jb (Z5 n ns vs tx)=0→Lb V2 Ju=false→Kx vs∧Br (Jin vs tk) (Sf true (Z64 tk st S O M X Q=Y3 (Z64 tk st S O M X Q) (Z5 n ns vs tx)∧22=V1 (Z64 tk st S O M X Q) (Z5 n ns vs tx))) (Jum tk st S O M X Q ns∧Br (Jv (Z64 tk st S O M X Q) V2 ns !=0) (Sf true (Z64 tk st S O M X Q=Y3 (Z64 tk st S O M X Q) (Z5 n ns vs tx)∧Jv (Z64 tk st S O M X Q) V2 ns=V1 (Z64 tk st S O M X Q) (Z5 n ns vs tx))) (Jij S∧Jii O∧Jik M∧Jil X∧Jim Q∧T2 (Z92 ns) (Z55 O)∧T2 (Khi O ns) (T2 (Kxw O ns→Khi O ns) (Tw (Kxw O ns→Z34 vs)))∧Br (bif Kyb O ns then true else decide ((Kkh O ns).2≤Z91 vs)) (Kx vs∧Sf true (Jdx vs st S O M X Q=Y3 (Z64 tk st S O M X Q) (Z5 n ns vs tx)∧23=V1 (Z64 tk st S O M X Q) (Z5 n ns vs tx))) (T2 (Z34 vs) (Kmz O ns)∧Kx vs∧Sf true ((Z91 vs,st,S,List.set ([]++O) (Int.toNat (Jsg O ns)) (Kak O ns,Kkn O ns,Kki O ns,Kf3 O ns,Kgb O ns,(Kga O ns).1,Z91 vs),M,X,Q)=Y3 (Z64 tk st S O M X Q) (Z5 n ns vs tx)∧0=V1 (Z64 tk st S O M X Q) (Z5 n ns vs tx))))))=_).mp ?_
 delta Z5 Z34 Z46 Z55 Z64 Z71 Z91 Z92 Kx Vb Jy Jsg Jin Jim Jil Jik Jij Jii Jdx Jen Khi Kmz Jum Kkr Kkq Kak Kkn Kkm Kkj Kki Kkh Kkg Kgb Kga Kke Kf3 Kyb Kxw Br Bd T2 Tw Sf Ln Gt B0 Lb E2 V2 Ju
 intro hr hu hm hc _
 obtain⟨hn,hv,nS,nO,nX,nQ,hx⟩:=Jzq hr hc
 simp only[Vl,List.length_cons,List.length_nil] at hn hv nS nO nX nQ hx
 have cE:ckS (tk,st,S,O,M,X,Q) (n,V2,ns,vs,tx)=Jdh O ns vs:=by simp only[ckS,Vl]
 have sE:Jq (tk,st,S,O,M,X,Q) (n,V2,ns,vs,tx)=(vs.getD 0 0,(F0 (tk,st,S,O,M,X,Q) (n,V2,ns,vs,tx)).2):=by simp only[Jq,doS,Vl]
 have hF:(Jv (tk,st,S,O,M,X,Q) V2 ns !=0)=false→(0≤Kd O (ns.getD 0 Ja)∧Kd O (ns.getD 0 Ja)<O.length):=fun a=>by
  have z:=fcN a
  rw[Vl] at z
  obtain⟨k0,z⟩:=Jl z
  exact⟨Jzt (k0 rfl),Uj⟩
 have hP:(Jv (tk,st,S,O,M,X,Q) V2 ns !=0)=false→((Vk O (ns.getD 0 Ja)).2.2.2.2.2.2 != -1)=decide (0≤(Vk O (ns.getD 0 Ja)).2.2.2.2.2.2):=fun a=>by
  have h: -1≤(Vk O (ns.getD 0 Ja)).2.2.2.2.2.2:=(hr.ord _ (Jag (hF a).1)).trip.1
  by_cases q:0≤(Vk O (ns.getD 0 Ja)).2.2.2.2.2.2
  ·rw[decide_eq_true q];exact bne_iff_ne.mpr Oo
  ·rw[decide_eq_false q];exact bne_eq_false_iff_eq.mpr Oo
 simp only[List.nil_append,rcb,rcS,rcO,rcX,rcQ,Prod.eta]
 repeat' first|exact lfT ‹_›|exact lfN ‹_› ‹_›|exact lfA ‹_› ‹_› (cE.trans (by have hp:=hP ‹_›;clear cE sE hF hP hx hc;simp only[Jdh,Hu,List.nil_append, *,cond_true,cond_false,reduceIte,decide_true,decide_false,Bool.not_true,Bool.not_false,Int.reduceEq,Int.reduceNe,ne_eq,not_false_eq_true,not_true_eq_false];first|done|rfl|decide)) (by first|exact .inl ⟨Od,rfl⟩|exact .inl ⟨bne_iff_ne.mp ‹_›,rfl⟩|exact .inr ⟨rfl,sE.trans (by first|rfl|simp only[F0,List.nil_append]|simp only[F0,X2 (hF ‹_›).1])⟩)|apply And.intro|intro _
 all_goals first|omega|trivial|assumption|exact hP ‹_›|(have:=hF ‹_›;omega)
abbrev Jgt (tk st:Int) (S:List Sta) (O:List Ord) (M:List Met) (X:List Out) (Q:List Per) (n:Int) (ns:List ByteArray) (vs:List Int) (tx:ByteArray):Ann:={X:=Nat,σ:=fun k=>⟨30,[(2, .one (.ptr 25 0)),(3, .one (.ptr 26 0)),(4, .one (.ptr 27 0)),(6, .one (.sl 6)),(7, .one (.ptr 28 0)),(8, .one (.int .i64 (vs.getD 1 0+k)))],[(5, .imm 9 .str ns),(6, .imm 3 sI vs),(8, .box 67 [.int .i64 n, .str Js, .sl 5, .sl 6, .str tx]),(9, .box 37 J0f),(23, .box 37 [.int .i64 tk, .int .i64 st, .sl 14, .sl 16, .sl 18, .sl 20, .sl 22]),(24, .sus [(3, .one (.ptr 8 0)),(4, .one (.ptr 9 0)),(7, .one (.ptr 23 0))]),(25, .box 37 [.int .i64 tk, .int .i64 st, .sl 14, .sl 16, .sl 18, .sl 20, .sl 22]),(26, .box 67 [.int .i64 n, .str Js, .sl 5, .sl 6, .str tx]),(27, .box 37 J0f),(28, .box 117 [.int .i64 (vs.getD 1 0), .int .i64 (vs.getD 2 0)]),(14, .own 114 Ft S),(16, .own 119 Lt O),(18, .own 121 Jaw M),(20, .own 123 Zw X),(22, .own 125 Hw Q)]⟩,inv:=fun k=>k≤(vs.getD 2 0-vs.getD 1 0).toNat∧Zf (Vt (n,Js,ns,vs,tx)) (fun h=>decide (vs.getD 3 0<K5 O (ns.getD 1 Ja) h))=Jpm (fun h=>decide (vs.getD 3 0<K5 O (ns.getD 1 Ja) h)) (vs.getD 1 0+k) ((vs.getD 2 0-vs.getD 1 0).toNat-k),mu:=fun k=>(vs.getD 2 0-vs.getD 1 0).toNat-k}
def Kgp (a:Li) (b:Int) (c:List Sta) (d:List Ord) (e:List Met) (f:List Out) (g:List Per) (h i:Int) (j:Ls) (k:Bt):=Jdx a b c d e f g=Y3 (Z64 h b c d e f g) (Z21 i j a k)
def Kix (a:Nat) (b:Li) (c:Int) (d:Ls) (e:Bt) (f:List Ord):=Kmx a b∧(Zf (Vt (Z21 c d b e)) fun(h:Int)=>decide (Z86 b<K5 f (Jkx d) h))=Jpm (fun(h:Int)=>decide (Z86 b<K5 f (Jkx d) h)) (Juo b a) (Kax b a)
def J9o (a:Ls) (b:Li) (c:Int) (d:Bt) (e f:Int) (g:List Sta) (h:List Ord) (i:List Met) (j:List Out) (k:List Per):=Sf a (Sf b (Si c (Sf Js (Sf d (Si 0 (Si 0 (Sf Vs (Sf Vs (Sf Vs (Sf Vs (Sf Vs (Si e (Si f (Si e (Si f (Si c (Sf Js (Kiy d b g h i j k))))))))))))))))))
theorem Jk8:wpFG Tryz.prog Juc.g Dh (X7 (some (Jgt tk st S O M X Q n ns vs tx))) (Sx.look ([(225,Tryz.f225),(226,Tryz.f226),(227,Tryz.f227)]:List (Nat×Func))) Tryz.f132 Dg ((tk,st,S,O,M,X,Q),(n,Js,ns,vs,tx),()):=by
 refine(by kernel_rfl:(Jy tk st S O M X Q→Jcx X→Z46 M→Jb (Z21 n ns vs tx)=0→Lb Js Ju=false→Kx vs∧Br (Jin vs tk) (Sf true (Z64 tk st S O M X Q=Y3 (Z64 tk st S O M X Q) (Z21 n ns vs tx)∧22=V1 (Z64 tk st S O M X Q) (Z21 n ns vs tx))) ((Jy tk st S O M X Q∧Sf true (Jsi ns))∧Br (Jv (Z64 tk st S O M X Q) Js ns !=0) (Sf true (Z64 tk st S O M X Q=Y3 (Z64 tk st S O M X Q) (Z21 n ns vs tx)∧Jv (Z64 tk st S O M X Q) Js ns=V1 (Z64 tk st S O M X Q) (Z21 n ns vs tx))) (Jij S∧Jii O∧Jik M∧Jil X∧Jim Q∧Ka4 vs∧Kjg vs∧Br (Klp vs) (Kx vs∧Sf true (Kgp vs st S O M X Q tk n ns tx∧14=V1 (Z64 tk st S O M X Q) (Z21 n ns vs tx))) (T2 (Z29 vs) (T2 (Z97 ns) (Z59 S∧Tw (Bd (Jz8 S ns) (Ln ([]++S)))))∧Br (decide ((Gt ([]++S) (Jz8 S ns) Z14).2.1≤Z86 vs)) (Kx vs∧Sf true (Kgp vs st S O M X Q tk n ns tx∧3=V1 (Z64 tk st S O M X Q) (Z21 n ns vs tx))) (∃(x:Nat),(Km1 vs x∧J9o ns vs n tx tk st S O M X Q)∧Kix x vs n ns tx O∧∀(x:Nat),Kix x vs n ns tx O→Br (Kml vs x) (T2 (Z97 ns) (Jy tk st S O M X Q∧Z88 vs)∧Br (decide (Z86 vs<K5 O (Lu ns) (Juo vs x))) (Kx vs∧Sf true (Kgp vs st S O M X Q tk n ns tx∧24=V1 (Z64 tk st S O M X Q) (Z21 n ns vs tx))) (Iw (Khp vs x)∧∃(y:Nat),(Klq vs x y∧J9o ns vs n tx tk st S O M X Q)∧Kix y vs n ns tx O∧Kj0 vs y x)) (Br (decide (16≤Ln X)) (Kx vs∧Sf true (Kgp vs st S O M X Q tk n ns tx∧5=V1 (Z64 tk st S O M X Q) (Z21 n ns vs tx))) (T2 (Z92 ns) (T2 (Z97 ns) (Kmu vs X))∧Kx vs∧Sf true ((Z91 vs,st,S,O,M,X++[(Vb ns,Lu ns,Kaz vs,Z86 vs)],Q)=Y3 (Z64 tk st S O M X Q) (Z21 n ns vs tx)∧0=V1 (Z64 tk st S O M X Q) (Z21 n ns vs tx)))))))))=_).mp ?_
 delta Z14 Z21 Z28 Z29 Z31 Z34 Z46 Z59 Z64 Z86 Z88 Z91 Z92 Z95 Z97 Lu Kx Zo Vb Jsi Jkx Jy Vs Jz8 Juo Jin Jim Jil Jik Jij Jii Khp Jdx Ka4 Kaz Km5 Km1 Kax Kmx Kmu Kml Klq Klp Kgp Kj0 Kjg Kiy Kix J9o Br Iw Bd T2 Tw Sf Si Ln Nc Gt B0 Lb Js Ju
 intro hr hu hm hc _
 obtain⟨hn,hv,nS,nO,nX,nQ,hx⟩:=Jzq hr hc
 simp only[Kr,List.length_cons,List.length_nil] at hn hv nS nO nX nQ hx
 have cE:ckS (tk,st,S,O,M,X,Q) (n,Js,ns,vs,tx)=Jbq S O X (n,Js,ns,vs,tx):=by simp only[ckS,Kr]
 have sE:Jq (tk,st,S,O,M,X,Q) (n,Js,ns,vs,tx)=(vs.getD 0 0,(F3 (tk,st,S,O,M,X,Q) (n,Js,ns,vs,tx)).2):=by simp only[Jq,doS,Kr]
 have hF:(Jv (tk,st,S,O,M,X,Q) Js ns !=0)=false→(0≤Jn S (ns.getD 1 Ja)∧Jn S (ns.getD 1 Ja)<S.length):=fun a=>by
  have z:=fcN a
  rw[Kr] at z
  obtain⟨k0,z⟩:=Jl z
  obtain⟨k1,z⟩:=Jl z
  exact⟨Jq6 (k1 rfl),Kt⟩
 have v1:=hx 1 Oo
 have v2:=hx 2 Oo
 have v3:=hx 3 Oo
 have pE:Zs (n,Js,ns,vs,tx)=bif Kd9 (vs.getD 0 0) (vs.getD 1 0) (vs.getD 2 0) then 14 else 0:=rfl
 simp only[List.nil_append,rcb,rcS,rcO,rcX,rcQ,Prod.eta]
 repeat' first|exact lfT ‹_›|exact lfN ‹_› ‹_›|exact lfA ‹_› ‹_› (cE.trans (by clear cE sE hF hx hc;simp only[Jbq,Jgm,Ji,Hu,List.nil_append, *,cond_true,cond_false,reduceIte,decide_true,decide_false,Bool.not_true,Bool.not_false,Int.reduceEq,Int.reduceNe,ne_eq,not_false_eq_true,not_true_eq_false];first|done|rfl|decide)) (by first|exact .inl ⟨Od,rfl⟩|exact .inl ⟨bne_iff_ne.mp ‹_›,rfl⟩|exact .inr ⟨rfl,sE.trans (by first|rfl|(simp only[F3,List.nil_append];done)|simp only[F3,X2 (hF ‹_›).1])⟩)|(refine⟨(0:Nat),Oe,⟨Nat.zero_le _,by simp[Zf,Vt,Jtv]⟩,fun(k:Nat) hk=>⟨fun h1=> ?_,fun h1=> ?_⟩⟩;obtain⟨k1,k2⟩:=hk;replace h1:=of_decide_eq_true h1;rw[Jrz Oo] at k2;skip;rotate_left;obtain⟨k1,k2⟩:=hk;replace h1:=of_decide_eq_false h1;rw[Jr0 Oo] at k2)|(refine⟨(k+1:Nat),Oe,⟨Oo, ?_⟩,Oo⟩;rw[k2,show decide (vs.getD 3 0<K5 O (ns.getD 1 Ja) (vs.getD 1 0+k))=false from ‹_›];rfl)|apply And.intro|intro _
 all_goals first|omega|trivial|assumption|(have:=hF ‹_›;omega)
def K1h (a:List Out) (b:Ls):=Gt ([]++a) (Jup a b) Jg8
def K1a (a:List Out) (b:Ls):=(K1h a b).2
def K09 (a:List Out) (b:Ls) (c:Li):=T2 (Bd (Jup a b) (Ln ([]++a))) (Kx c)
def K04 (a:List Out) (b:Ls):=(K1a a b).2
def K02 (a:List Out) (b:Ls):=(K04 a b).1
def K0t (a:List Out) (b:Ls):=(K02 a b).1
theorem Jit:wpFG Tryz.prog Juc.g Dh (X7 (none)) (Sx.look ([(225,Tryz.f225),(226,Tryz.f226),(227,Tryz.f227)]:List (Nat×Func))) Tryz.f132 Dg ((tk,st,S,O,M,X,Q),(n,Jt,ns,vs,tx),()):=by
 refine(by kernel_rfl:(Jy tk st S O M X Q→Jcx X→Z46 M→Jb (Z32 n ns vs tx)=0→Lb Jt Ju=false→Kx vs∧Br (Jin vs tk) (Sf true (Z64 tk st S O M X Q=Y3 (Z64 tk st S O M X Q) (Z32 n ns vs tx)∧22=V1 (Z64 tk st S O M X Q) (Z32 n ns vs tx))) (Jum tk st S O M X Q ns∧Br (Jv (Z64 tk st S O M X Q) Jt ns !=0) (Sf true (Z64 tk st S O M X Q=Y3 (Z64 tk st S O M X Q) (Z32 n ns vs tx)∧Jv (Z64 tk st S O M X Q) Jt ns=V1 (Z64 tk st S O M X Q) (Z32 n ns vs tx))) (Jij S∧Jii O∧Jik M∧Jil X∧Jim Q∧T2 (Z92 ns) (Z47 X)∧K09 X ns vs∧Br (decide (Z91 vs≤K0t X ns)) (Kx vs∧Sf true (Jdx vs st S O M X Q=Y3 (Z64 tk st S O M X Q) (Z32 n ns vs tx)∧21=V1 (Z64 tk st S O M X Q) (Z32 n ns vs tx))) (K09 X ns vs∧Br (decide ((K02 X ns).2≤Z91 vs)) (Kx vs∧Sf true (Jdx vs st S O M X Q=Y3 (Z64 tk st S O M X Q) (Z32 n ns vs tx)∧23=V1 (Z64 tk st S O M X Q) (Z32 n ns vs tx))) (T2 (Z92 ns) (Z49 Q)∧Br (Yn Q (Vb ns)) (Kx vs∧Sf true (Jdx vs st S O M X Q=Y3 (Z64 tk st S O M X Q) (Z32 n ns vs tx)∧32=V1 (Z64 tk st S O M X Q) (Z32 n ns vs tx))) (T2 (Z34 vs) (Tw (Bd (Jup X ns) (Ln ([]++X))))∧Kx vs∧Sf true ((Z91 vs,st,S,O,M,List.set ([]++X) (Int.toNat (Jup X ns)) ((K1h X ns).1,(K1a X ns).1,(K0t X ns,Z91 vs),(K04 X ns).2),Q)=Y3 (Z64 tk st S O M X Q) (Z32 n ns vs tx)∧0=V1 (Z64 tk st S O M X Q) (Z32 n ns vs tx))))))))=_).mp ?_
 delta Z32 Z34 Z46 Z47 Z49 Z64 Z91 Z92 Kx Vb Jy Jg8 Jup Jin Jim Jil Jik Jij Jii Jdx Jum K1h K1a K09 K04 K02 K0t Br Bd T2 Tw Sf Ln Gt B0 Lb Jt Ju
 intro hr hu hm hc _
 obtain⟨hn,hv,nS,nO,nX,nQ,hx⟩:=Jzq hr hc
 simp only[J5,List.length_cons,List.length_nil] at hn hv nS nO nX nQ hx
 have cE:ckS (tk,st,S,O,M,X,Q) (n,Jt,ns,vs,tx)=Jdi X Q ns vs:=by simp only[ckS,J5]
 have sE:Jq (tk,st,S,O,M,X,Q) (n,Jt,ns,vs,tx)=(vs.getD 0 0,(F2 (tk,st,S,O,M,X,Q) (n,Jt,ns,vs,tx)).2):=by simp only[Jq,doS,J5]
 have hF:(Jv (tk,st,S,O,M,X,Q) Jt ns !=0)=false→(0≤J6 X (ns.getD 0 Ja)∧J6 X (ns.getD 0 Ja)<X.length):=fun a=>by
  have z:=fcN a
  rw[J5] at z
  obtain⟨k0,z⟩:=Jl z
  exact⟨J1n (k0 rfl),Ut⟩
 have hP:(Jv (tk,st,S,O,M,X,Q) Jt ns !=0)=false→decide ((0:Int)<((Dm Q).filter fun p=>p.2.1.toList==(Le X (ns.getD 0 Ja)).1.toList).length)=Yn Q (ns.getD 0 Ja):=fun a=>by rw[Jma (hF a).1];rfl
 simp only[List.nil_append,rcb,rcS,rcO,rcX,rcQ,Prod.eta]
 repeat' first|exact lfT ‹_›|exact lfN ‹_› ‹_›|exact lfA ‹_› ‹_› (cE.trans (by have hp:=hP ‹_›;clear cE sE hF hP hx hc;simp only[Jdi,Ji,Hu,List.nil_append, *,cond_true,cond_false,reduceIte,decide_true,decide_false,Bool.not_true,Bool.not_false,Int.reduceEq,Int.reduceNe,ne_eq,not_false_eq_true,not_true_eq_false];first|done|rfl|decide)) (by first|exact .inl ⟨Od,rfl⟩|exact .inl ⟨bne_iff_ne.mp ‹_›,rfl⟩|exact .inr ⟨rfl,sE.trans (by first|rfl|simp only[F2,List.nil_append]|simp only[F2,X2 (hF ‹_›).1])⟩)|apply And.intro|intro _
 all_goals first|omega|trivial|assumption|exact hP ‹_›|(have:=hF ‹_›;omega)
theorem Jk7:wpFG Tryz.prog Juc.g Dh (X7 (none)) (Sx.look ([(225,Tryz.f225),(226,Tryz.f226),(227,Tryz.f227)]:List (Nat×Func))) Tryz.f132 Dg ((tk,st,S,O,M,X,Q),(n,Kg,ns,vs,tx),()):=by
 refine(by kernel_rfl:(Jy tk st S O M X Q→Jcx X→Z46 M→Jb (Z22 n ns vs tx)=0→Lb Kg Ju=false→Kx vs∧Br (Jin vs tk) (Sf true (Z64 tk st S O M X Q=Y3 (Z64 tk st S O M X Q) (Z22 n ns vs tx)∧22=V1 (Z64 tk st S O M X Q) (Z22 n ns vs tx))) ((Jy tk st S O M X Q∧Sf true (Jsi ns))∧Br (Jv (Z64 tk st S O M X Q) Kg ns !=0) (Sf true (Z64 tk st S O M X Q=Y3 (Z64 tk st S O M X Q) (Z22 n ns vs tx)∧Jv (Z64 tk st S O M X Q) Kg ns=V1 (Z64 tk st S O M X Q) (Z22 n ns vs tx))) (Jij S∧Jii O∧Jik M∧Jil X∧Jim Q∧T2 (Z97 ns) (Z47 X∧T2 (Bd (J6 X (Lu ns)) (Ln ([]++X))) (Kx vs))∧Br (!Kk (E2 (Gt ([]++X) (J6 X (Lu ns)) Jg8).2.2.1) (Z91 vs)) (Kx vs∧Sf true (Jdx vs st S O M X Q=Y3 (Z64 tk st S O M X Q) (Z22 n ns vs tx)∧22=V1 (Z64 tk st S O M X Q) (Z22 n ns vs tx))) (Br (decide (16≤Ln ([]++Q))) (Kx vs∧Sf true (Jdx vs st S O M X Q=Y3 (Z64 tk st S O M X Q) (Z22 n ns vs tx)∧5=V1 (Z64 tk st S O M X Q) (Z22 n ns vs tx))) (Kk1 ns Q∧Kx vs∧Sf true ((Z91 vs,st,S,O,M,Kl4 X Q ns)=Y3 (Z64 tk st S O M X Q) (Z22 n ns vs tx)∧0=V1 (Z64 tk st S O M X Q) (Z22 n ns vs tx)))))))=_).mp ?_
 delta Z22 Z34 Z46 Z47 Z64 Z91 Z92 Z97 Lu Kx Vb Jsi Jy Jg8 Jin Jim Jil Jik Jij Jii Jdx Kl4 Kk1 Br Bd T2 Tw Sf Ln Gt B0 Lb E2 Kg Ju
 intro hr hu hm hc _
 obtain⟨hn,hv,nS,nO,nX,nQ,hx⟩:=Jzq hr hc
 simp only[K1,List.length_cons,List.length_nil] at hn hv nS nO nX nQ hx
 have cE:ckS (tk,st,S,O,M,X,Q) (n,Kg,ns,vs,tx)=Jdj X Q ns vs:=by simp only[ckS,K1]
 have sE:Jq (tk,st,S,O,M,X,Q) (n,Kg,ns,vs,tx)=(vs.getD 0 0,(F4 (tk,st,S,O,M,X,Q) (n,Kg,ns,vs,tx)).2):=by simp only[Jq,doS,K1]
 have hF:(Jv (tk,st,S,O,M,X,Q) Kg ns !=0)=false→(0≤J6 X (ns.getD 1 Ja)∧J6 X (ns.getD 1 Ja)<X.length):=fun a=>by
  have z:=fcN a
  rw[K1] at z
  obtain⟨k0,z⟩:=Jl z
  obtain⟨k1,z⟩:=Jl z
  exact⟨J1n (k1 rfl),Ut⟩
 simp only[List.nil_append,rcb,rcS,rcO,rcX,rcQ,Prod.eta]
 repeat' first|exact lfT ‹_›|exact lfN ‹_› ‹_›|exact lfA ‹_› ‹_› (cE.trans (by clear cE sE hF hx hc;simp only[Jdj,Ji,Hu,List.nil_append, *,cond_true,cond_false,reduceIte,decide_true,decide_false,Bool.not_true,Bool.not_false,Int.reduceEq,Int.reduceNe,ne_eq,not_false_eq_true,not_true_eq_false];first|done|rfl|decide)) (by first|exact .inl ⟨Od,rfl⟩|exact .inl ⟨bne_iff_ne.mp ‹_›,rfl⟩|exact .inr ⟨rfl,sE.trans (by first|rfl|simp only[F4,List.nil_append]|simp only[F4,X2 (hF ‹_›).1])⟩)|apply And.intro|intro _
 all_goals first|omega|trivial|assumption|(have:=hF ‹_›;omega)
def K2r (a:List Per) (b:Ls):=Tw (Bd (Jt7 a b) (Ln ([]++a)))
def K2l (a:List Per) (b:Ls):=Gt ([]++a) (Jt7 a b) (B0,B0,false)
def K2j (a:List Per) (b:Ls):=(K2l a b).2
theorem Jk6:wpFG Tryz.prog Juc.g Dh (X7 (none)) (Sx.look ([(225,Tryz.f225),(226,Tryz.f226),(227,Tryz.f227)]:List (Nat×Func))) Tryz.f132 Dg ((tk,st,S,O,M,X,Q),(n,Kf,ns,vs,tx),()):=by
 refine(by kernel_rfl:(Jy tk st S O M X Q→Jcx X→Z46 M→Jb (Z23 n ns vs tx)=0→Lb Kf Ju=false→Kx vs∧Br (Jin vs tk) (Sf true (Z64 tk st S O M X Q=Y3 (Z64 tk st S O M X Q) (Z23 n ns vs tx)∧22=V1 (Z64 tk st S O M X Q) (Z23 n ns vs tx))) (Jum tk st S O M X Q ns∧Br (Jv (Z64 tk st S O M X Q) Kf ns !=0) (Sf true (Z64 tk st S O M X Q=Y3 (Z64 tk st S O M X Q) (Z23 n ns vs tx)∧Jv (Z64 tk st S O M X Q) Kf ns=V1 (Z64 tk st S O M X Q) (Z23 n ns vs tx))) (Jij S∧Jii O∧Jik M∧Jil X∧Jim Q∧T2 (Z92 ns) (Z49 Q)∧K2r Q ns∧Br (!(K2j Q ns).2) (Kx vs∧Sf true (Jdx vs st S O M X Q=Y3 (Z64 tk st S O M X Q) (Z23 n ns vs tx)∧23=V1 (Z64 tk st S O M X Q) (Z23 n ns vs tx))) (K2r Q ns∧Kx vs∧Sf true ((Z91 vs,st,S,O,M,X,List.set ([]++Q) (Int.toNat (Jt7 Q ns)) ((K2l Q ns).1,(K2j Q ns).1,false))=Y3 (Z64 tk st S O M X Q) (Z23 n ns vs tx)∧0=V1 (Z64 tk st S O M X Q) (Z23 n ns vs tx))))))=_).mp ?_
 delta Z23 Z34 Z46 Z49 Z64 Z91 Z92 Kx Vb Jy Jt7 Jin Jim Jil Jik Jij Jii Jdx K2r K2l K2j Jum Br Bd T2 Tw Sf Ln Gt B0 Lb Kf Ju
 intro hr hu hm hc _
 obtain⟨hn,hv,nS,nO,nX,nQ,hx⟩:=Jzq hr hc
 simp only[K0,List.length_cons,List.length_nil] at hn hv nS nO nX nQ hx
 have cE:ckS (tk,st,S,O,M,X,Q) (n,Kf,ns,vs,tx)=Jpc Q ns:=by simp only[ckS,K0]
 have sE:Jq (tk,st,S,O,M,X,Q) (n,Kf,ns,vs,tx)=(vs.getD 0 0,(Jhh (tk,st,S,O,M,X,Q) (n,Kf,ns,vs,tx)).2):=by simp only[Jq,doS,K0]
 have hF:(Jv (tk,st,S,O,M,X,Q) Kf ns !=0)=false→(0≤Va Q (ns.getD 0 Ja)∧Va Q (ns.getD 0 Ja)<Q.length):=fun a=>by
  have z:=fcN a
  rw[K0] at z
  obtain⟨k0,z⟩:=Jl z
  exact⟨Kik (k0 rfl),U8⟩
 simp only[List.nil_append,rcb,rcS,rcO,rcX,rcQ,Prod.eta]
 repeat' first|exact lfT ‹_›|exact lfN ‹_› ‹_›|exact lfA ‹_› ‹_› (cE.trans (by clear cE sE hF hx hc;simp only[Jpc,Hu,List.nil_append, *,cond_true,cond_false,reduceIte,decide_true,decide_false,Bool.not_true,Bool.not_false,Int.reduceEq,Int.reduceNe,ne_eq,not_false_eq_true,not_true_eq_false];first|done|rfl|decide)) (by first|exact .inl ⟨Od,rfl⟩|exact .inl ⟨bne_iff_ne.mp ‹_›,rfl⟩|exact .inr ⟨rfl,sE.trans (by first|rfl|simp only[Jhh,List.nil_append]|simp only[Jhh,X2 (hF ‹_›).1])⟩)|apply And.intro|intro _
 all_goals first|omega|trivial|assumption|(have:=hF ‹_›;omega)
abbrev Jgs (tk st:Int) (S:List Sta) (O:List Ord) (M:List Met) (X:List Out) (Q:List Per) (n:Int) (ns:List ByteArray) (vs:List Int) (tx:ByteArray):Ann:={X:=Nat,σ:=fun k=>⟨30,[(2, .one (.ptr 25 0)),(3, .one (.ptr 26 0)),(4, .one (.ptr 27 0)),(6, .one (.sl 6)),(11, .one (.int .i64 k))],[(5, .imm 9 .str ns),(6, .imm 3 sI vs),(8, .box 67 [.int .i64 n, .str Jk, .sl 5, .sl 6, .str tx]),(9, .box 37 J0f),(23, .box 37 [.int .i64 tk, .int .i64 st, .sl 14, .sl 16, .sl 18, .sl 20, .sl 22]),(24, .sus [(3, .one (.ptr 8 0)),(4, .one (.ptr 9 0)),(7, .one (.ptr 23 0))]),(25, .box 37 [.int .i64 tk, .int .i64 st, .sl 14, .sl 16, .sl 18, .sl 20, .sl 22]),(26, .box 67 [.int .i64 n, .str Jk, .sl 5, .sl 6, .str tx]),(27, .box 37 J0f),(14, .imm 114 Ft S),(16, .imm 119 Lt O),(18, .imm 121 Jaw M),(20, .imm 123 Zw X),(22, .imm 125 Hw Q)]⟩,inv:=fun k=>k≤X.length∧(X.any fun x=>decide (x.2.2.1.2≤vs.getD 1 0)&&Yn Q x.1)=((X.drop k).any fun x=>decide (x.2.2.1.2≤vs.getD 1 0)&&Yn Q x.1),mu:=fun k=>X.length-k}
def K1n (a:List Out) (b:Nat) (c:Li):=decide ((J4o a b).1.2≤Zo c)
def K0y (a:List Out) (b:Nat) (c:Li):=K1n a b c=true
def Kjc (a:Nat) (b:List Out) (c:Li) (d:List Per):=a≤List.length b∧(List.any b fun(x:Out)=>decide (x.2.2.1.2≤Zo c)&&Yn d x.1)=List.any (List.drop a b) fun(x:Out)=>decide (x.2.2.1.2≤Zo c)&&Yn d x.1
def Kwp (a:Li) (b:Int) (c:List Sta) (d:List Ord) (e:List Met) (f:List Out) (g:List Per) (h i:Int) (j:Ls) (k:Bt):=Kx a∧Sf true (Jdx a b c d e f g=Y3 (Z64 h b c d e f g) (Z18 i j a k)∧32=V1 (Z64 h b c d e f g) (Z18 i j a k))
def Kuy (a:Ls) (b:Li) (c:Int) (d:Bt) (e f:Int) (g:List Sta) (h:List Ord) (i:List Met) (j:List Out) (k:List Per):=Sf a (Sf b (Si c (Sf Jk (Sf d (Si 0 (Si 0 (Sf Vs (Sf Vs (Sf Vs (Sf Vs (Sf Vs (Si e (Si f (Si e (Si f (Si c (Sf Jk (Sf d (Si 0 (Si 0 (Sf Vs (Sf Vs (Sf Vs (Sf Vs (Sf Vs (Sf g (Sf h (Sf i (Sf j (k=k))))))))))))))))))))))))))))))
theorem Jk5:wpFG Tryz.prog Juc.g Dh (X7 (some (Jgs tk st S O M X Q n ns vs tx))) (Sx.look ([(225,Tryz.f225),(226,Tryz.f226),(227,Tryz.f227)]:List (Nat×Func))) Tryz.f132 Dg ((tk,st,S,O,M,X,Q),(n,Jk,ns,vs,tx),()):=by
 refine(by kernel_rfl:(Jy tk st S O M X Q→Jcx X→Z46 M→Jb (Z18 n ns vs tx)=0→Lb Jk Ju=false→Kx vs∧Br (Jin vs tk) (Sf true (Z64 tk st S O M X Q=Y3 (Z64 tk st S O M X Q) (Z18 n ns vs tx)∧22=V1 (Z64 tk st S O M X Q) (Z18 n ns vs tx))) ((Jy tk st S O M X Q∧Sf true (List.length ns=0))∧Br (Jv (Z64 tk st S O M X Q) Jk ns !=0) (Sf true (Z64 tk st S O M X Q=Y3 (Z64 tk st S O M X Q) (Z18 n ns vs tx)∧Jv (Z64 tk st S O M X Q) Jk ns=V1 (Z64 tk st S O M X Q) (Z18 n ns vs tx))) (Jij S∧Jii O∧Jik M∧Jil X∧Jim Q∧T2 (Z28 vs) (T2 (Khu vs st=false→Z28 vs) (Kl6 vs st))∧Br (Kko vs st) (Kx vs∧Sf true (Jdx vs st S O M X Q=Y3 (Z64 tk st S O M X Q) (Z18 n ns vs tx)∧14=V1 (Z64 tk st S O M X Q) (Z18 n ns vs tx))) (T2 (Z28 vs) (Jy tk st S O M X Q)∧Br (decide (0<Ln (Ks M (Zo vs) O))) (Kwp vs st S O M X Q tk n ns tx) (∃(x:Nat),(0=Nc x∧Kuy ns vs n tx tk st S O M X Q)∧Kjc x X vs Q∧∀(x:Nat),Kjc x X vs Q→Br (Z87 x X) (T2 (Z19 x X) (T2 (Z28 vs) (T2 (K0y X x vs→Z19 x X) (K0y X x vs→Z49 Q)))∧Br (bif K1n X x vs then Yn Q (J2x X x) else false) (Kwp vs st S O M X Q tk n ns tx) (Z17 x∧∃(y:Nat),(Z96 x y∧Kuy ns vs n tx tk st S O M X Q)∧Kjc y X vs Q∧Jz6 X y x)) (Z93 vs∧Kx vs∧Sf true ((Z91 vs,Zo vs,S,O,M,X,Q)=Y3 (Z64 tk st S O M X Q) (Z18 n ns vs tx)∧0=V1 (Z64 tk st S O M X Q) (Z18 n ns vs tx))))))))=_).mp ?_
 delta Z17 Z18 Z19 Z28 Z34 Z46 Z49 Z64 Z87 Z91 Z93 Z96 Kx Zo Jy Vs Jg8 Khu Jin Jz6 Jim Jil Jik Jij Jii J2y Jdx J2x J4o Kl6 K1n K0y Kko Kjc Kwp Kuy Br Iw Bd T2 Tw Sf Si Ln Nc B0 Lb Jk Ju
 intro hr hu hm hc _
 obtain⟨hn,hv,nS,nO,nX,nQ,hx⟩:=Jzq hr hc
 simp only[Uy,List.length_cons,List.length_nil] at hn hv nS nO nX nQ hx
 have cE:ckS (tk,st,S,O,M,X,Q) (n,Jk,ns,vs,tx)=Df st O M X Q vs:=by simp only[ckS,Uy]
 have sE:Jq (tk,st,S,O,M,X,Q) (n,Jk,ns,vs,tx)=(vs.getD 0 0,(Jbl (tk,st,S,O,M,X,Q) (n,Jk,ns,vs,tx)).2):=by simp only[Jq,doS,Uy]
 have lE:=J58 (Q:=Q) (u:=vs.getD 1 0) hu hr.per
 have v1:=hx 1 Oo
 simp only[List.nil_append,rcb,rcS,rcO,rcX,rcQ,Prod.eta]
 repeat' first|exact lfT ‹_›|exact lfN ‹_› ‹_›|exact lfA ‹_› ‹_› (cE.trans (by clear cE sE hx hc;simp only[Df,Bool.true_or,Bool.false_or,Hu,List.nil_append, *,cond_true,cond_false,reduceIte,decide_true,decide_false,Bool.not_true,Bool.not_false,Int.reduceEq,Int.reduceNe,ne_eq,not_false_eq_true,not_true_eq_false];first|done|rfl|decide)) (by first|exact .inl ⟨Od,rfl⟩|exact .inl ⟨bne_iff_ne.mp ‹_›,rfl⟩|exact .inr ⟨rfl,sE.trans (by first|rfl|simp only[Jbl,List.nil_append])⟩)|(refine⟨(0:Nat),Oe,⟨Nat.zero_le _,rfl⟩,fun(k:Nat) hk=>⟨fun h1=> ?_,fun h1=> ?_⟩⟩;obtain⟨k1,k2⟩:=hk;replace h1:=of_decide_eq_true h1;rw[J2 (d:=(Ja,Ja,(0,0),0)) Oo,List.any_cons] at k2;rw[K76] at k2;rotate_left;obtain⟨k1,k2⟩:=hk;replace h1:=of_decide_eq_false h1;rw[List.drop_eq_nil_of_le Oo,List.any_nil] at k2)|(refine⟨(k+1:Nat),Oe,⟨Oo, ?_⟩,Oo⟩;rw[k2,show(bif decide ((X.getD k (Ja,Ja,(0,0),0)).2.2.1.2≤vs.getD 1 0) then Yn Q (X.getD k (Ja,Ja,(0,0),0)).1 else false)=false from ‹_›];rfl)|apply And.intro|intro _
 all_goals first|omega|trivial|assumption
def Jue (k:ByteArray):Nat:=if k=Js then 1 else if k=Ki then 2 else if k=Jk then 3 else 0
def Jyp (tk st:Int) (S:List Sta) (O:List Ord) (M:List Met) (X:List Out) (Q:List Per) (n:Int) (ns:List ByteArray) (vs:List Int) (tx:ByteArray):Nat→Option Ann
 |1=>some (Jgt tk st S O M X Q n ns vs tx)
 |2=>some (Jig tk st S O M X Q n ns vs tx)
 |3=>some (Jgs tk st S O M X Q n ns vs tx)
 |_=>none
def Jyq:ATup [Hk,aEv]→Option Ann
 |((tk,st,S,O,M,X,Q),(n,k,ns,vs,tx),())=>Jyp tk st S O M X Q n ns vs tx (Jue k)
theorem J0j {Γ:Gam} {ann:Nat→Option Ann} {annF:FuncId→Nat→Option Ann} {lib:FuncId→Option Func} {fn:Func} {c:Con} {x:ATup c.args} (hb:fn.body.isSome=true) (h:Ux (c.pre x)→wpFG Tryz.prog Γ ann annF lib fn c x):wpFG Tryz.prog Γ ann annF lib fn c x:=by
 unfold wpFG at h⊢
 cases hc:fn.body with
 |none=>rw[hc] at hb;cases hb
 |some code=>
  rw[hc] at h
  exact Jbe h
theorem Fs {tk st:Int} {S:List Sta} {O:List Ord} {M:List Met} {X:List Out} {Q:List Per} {n:Int} {k:ByteArray} {ns:List ByteArray} {vs:List Int} {tx:ByteArray} {i:Nat} (h:Jue k=i):Jyq ((tk,st,S,O,M,X,Q),(n,k,ns,vs,tx),())=Jyp tk st S O M X Q n ns vs tx i:=by rw[←h];rfl
theorem Kol:∀x:ATup [Hk,aEv],wpFG Tryz.prog Juc.g Dh (X7 (Jyq x)) (Sx.look ([(225,Tryz.f225),(226,Tryz.f226),(227,Tryz.f227)]:List (Nat×Func))) Tryz.f132 Dg x
 | ((tk, st, S, O, M, X, Q), (n, k, ns, vs, tx), ()) => by
  refine J0j (by kernel_rfl) fun hp=> ?_
  have hc:Jb (n,k,ns,vs,tx)=0:=hp.2.2.2.1
  rcases Vd (Ud hc).kind with h|h|h|h|h|h|h|h|h|h|h<;>dsimp only at h<;>subst h
  ·have h4:(Ju.toList==Ju.toList)=false:=hp.2.2.2.2
   rw[show(Ju.toList==Ju.toList)=true from by kernel_rfl] at h4
   cases h4
  ·rw[Fs (show Jue Jw=0 from by kernel_rfl)];exact Jis tk st S O M X Q n ns vs tx
  ·rw[Fs (show Jue Uf=0 from by kernel_rfl)];exact Jnv tk st S O M X Q n ns vs tx
  ·rw[Fs (show Jue Ki=2 from by kernel_rfl)];exact Jnw tk st S O M X Q n ns vs tx
  ·rw[Fs (show Jue K9=0 from by kernel_rfl)];exact Jnx tk st S O M X Q n ns vs tx
  ·rw[Fs (show Jue V2=0 from by kernel_rfl)];exact Jsq tk st S O M X Q n ns vs tx
  ·rw[Fs (show Jue Js=1 from by kernel_rfl)];exact Jk8 tk st S O M X Q n ns vs tx
  ·rw[Fs (show Jue Jt=0 from by kernel_rfl)];exact Jit tk st S O M X Q n ns vs tx
  ·rw[Fs (show Jue Kg=0 from by kernel_rfl)];exact Jk7 tk st S O M X Q n ns vs tx
  ·rw[Fs (show Jue Kf=0 from by kernel_rfl)];exact Jk6 tk st S O M X Q n ns vs tx
  ·rw[Fs (show Jue Jk=3 from by kernel_rfl)];exact Jk5 tk st S O M X Q n ns vs tx
theorem Krn:Ok Tryz.prog 132 Dg:=Jfh mixed Juc.ok (by kernel_rfl) (by kernel_rfl) (U5 (l:=([(225,Tryz.f225),(226,Tryz.f226),(227,Tryz.f227)]:List (Nat×Func))) (List.forall_mem_cons.2 ⟨by kernel_rfl,List.forall_mem_cons.2 ⟨by kernel_rfl,List.forall_mem_cons.2 ⟨by kernel_rfl,by simp⟩⟩⟩)) (fun _=>Dh) (fun xx=>X7 (Jyq xx)) fun xx=>Kol xx
abbrev K3z:=Juc.add Krn
theorem J7x {h:Kh} {e:Ev} (h1:e.1=(h.1.length:Int)+1) (h2:(e.2.1.toList==Ju.toList)=false):Dc h e=V1 (J7 h.2.2) e:=by
 unfold Dc V1 Jv
 rw[bne_eq_false_iff_eq.2 h1,h2]
 dsimp only[cond_false]
 cases h3:decide (e.2.2.2.1.getD 0 0<(J7 h.2.2).1) with
 |true=>rw[if_pos rfl];rfl
 | false =>
  rw[if_neg (by simp)]
  cases h4:Kn (J7 h.2.2) e.2.2.1 (Jm e.2.1).1 0 with
  |true=>rw[if_pos (by simp)];rfl
  |false=>
   cases h5:Kq (J7 h.2.2) e.2.2.1 (Jm e.2.1).1 0 with
   |true=>rw[if_pos (by simp)];rfl
   |false=>rw[if_neg (by simp)];rfl
theorem J2r {r:Reg} {e:Ev} (h:V1 r e=0):Y3 r e=Jq r e:=by
 unfold V1 at h
 unfold Y3
 by_cases a:decide (e.2.2.2.1.getD 0 0<r.1)=true
 ·rw[if_pos a] at h;exact absurd h Od
 rw[if_neg a] at h⊢
 by_cases b:Jv r e.2.1 e.2.2.1≠0
 ·rw[if_pos b] at h;exact absurd h b
 rw[if_neg b] at h⊢
 rw[if_neg (by rw[h];simp)]
def Jpx (h:Kh):Prop:=∀r∈h.2.2,Jcx r.2.2.2.2.2.1
theorem Jv8 {h:Kh} (hu:Jpx h):Jcx (J7 h.2.2).2.2.2.2.2.1:=by
 unfold J7
 by_cases h0:0<h.2.2.length
 ·exact hu _ (Je Oo)
 ·have:h.2.2=[]:=List.eq_nil_of_length_eq_zero Oo
  rw[this];exact List.nodup_nil
theorem J0m {r:Reg} {e:Ev} (hu:Jcx r.2.2.2.2.2.1) (hk:Y5 e.2.1=true) (h1:Kn r e.2.2.1 (Jm e.2.1).1 0=false) (h2:Kq r e.2.2.1 (Jm e.2.1).1 0=false):Jcx (Jq r e).2.2.2.2.2.1:=by
 obtain⟨tk,st,S,O,M,X,Q⟩:=r
 obtain⟨n,k,ns,vs,tx⟩:=e
 have hu:Jcx X:=hu
 dsimp only at hk h1 h2
 rcases Vd hk with h|h|h|h|h|h|h|h|h|h|h<;>subst h
 ·simp only[Jq,doS,Jcg];exact hu
 ·simp only[Jq,doS,Kp];exact hu
 ·simp only[Jq,doS,U6];exact hu
 ·simp only[Jq,doS,Uh];exact hu
 ·simp only[Jq,doS,Ui];exact hu
 ·simp only[Jq,doS,Vl];exact hu
 ·rw[Kr] at h2
  unfold Kq at h2
  have h3:Vq (tk,st,S,O,M,X,Q) 2 (ns.getD 0 Ja)=false:=by
   cases q:Vq (tk,st,S,O,M,X,Q) 2 (ns.getD 0 Ja) with
   |false=>rfl
   |true=>rw[q] at h2;cases h2
  rw[Jf0] at h3
  have h3:=of_decide_eq_false h3
  simp only[Jq,doS,Kr]
  exact Jsx hu (by dsimp only at h3⊢;omega)
 ·rw[J5] at h1
  have h3:=J1n ((Jl h1).1 rfl)
  simp only[Jq,doS,J5]
  exact J48 hu h3
 ·simp only[Jq,doS,K1];exact hu
 ·simp only[Jq,doS,K0];exact hu
 ·simp only[Jq,doS,Uy];exact hu
theorem Jyy {h:Kh} {e:Ev} (hk:(e.2.1.toList==Ju.toList)=false) (ha:Dc h e=0):Kn (J7 h.2.2) e.2.2.1 (Jm e.2.1).1 0=false∧Kq (J7 h.2.2) e.2.2.1 (Jm e.2.1).1 0=false:=by
 obtain⟨n,k,ns,vs,tx⟩:=e
 have:=D9 ((Yz (h:=h) (n:=n) (k:=k) (ns:=ns) (vs:=vs) (tx:=tx) hk).symm.trans ha)
 exact⟨this.2.2.1,this.2.2.2.1⟩
theorem Jyw {h:Kh} {e:Ev} (hu:Jpx h) (ha:Ue h e=0):Jpx (Hz h e):=by
 obtain⟨hc,hacc⟩:=add_zero ha
 intro r hr
 unfold Hz at hr
 cases hk:e.2.1.toList==Ju.toList with
 |true=>
  rw[hk,cond_true] at hr
  exact hu r (List.mem_of_mem_take hr)
 | false =>
  rw[hk,cond_false] at hr
  rcases Vu hr with hr|hr
  ·exact hu r hr
  ·subst hr
   have:=Jyy hk hacc
   exact J0m (Jv8 hu) (Ud hc).kind this.1 this.2
def Jri (l:List Ev):List Ev:=if(Jd l).2.2=0 then(Jd l).1.2.1 else[]
def K7i:Con:={args:=[.val false (.list 67 sEv)],ress:=[(false, .list 67 sEv),(true,Jlu),I,I],owns:=[],pre:=fun(l,_)=>[lOk l],spec:=fun(l,_)=>(Jri l,Jc l,(Jd l).2.1,(Jd l).2.2,())}
abbrev Kec (l:List Ev):Ann:={X:=Kh×Nat,σ:=fun(h,i)=>⟨4,[(0, .one (.sl 0)),(3, .one (.ptr 1 0)),(6, .one (.sl 2)),(7, .one (.sl 3)),(8, .one (.int .i64 i))],[(0, .imm 67 sEv l),(1, .box 37 J0f),(2, .own 67 sEv h.2.1),(3, .own 37 Jlu (U9::h.2.2))]⟩,inv:=fun(h,i)=>Ys h∧Jpx h∧h.1.length=i∧i≤l.length∧l.length≤1000∧Dz h (l.drop i)=Jd l,mu:=fun(_,i)=>l.length-i}
theorem Jw0:Jpx Xt:=fun _ h=>(by cases h)
theorem K7e {C:List Ev} {G:List Reg} (h:G.length=C.length):(U9::G).getD C.length U9=J7 G:=by
 unfold J7
 rw[←h]
 cases G with
 |nil=>rfl
 |cons a G=>rfl
theorem Kb8 {h:Kh} {e:Ev} {l l':List Ev} {v:Int} (hr:Dz h (e::l')=Jd l) (ha:Ue h e=v) (hv:v≠0):[]=Jri l∧U9=Jc l∧(h.1.length:Int)+1=(Jd l).2.1∧v=(Jd l).2.2:=by
 unfold Dz at hr
 rw[if_neg (by rw[ha];exact hv),ha] at hr
 refine⟨?_, ?_,by rw[←hr],by rw[←hr]⟩
 ·unfold Jri;rw[←hr,if_neg (by exact hv)]
 ·unfold Jc;rw[←hr,if_neg (by exact hv)]
theorem Jvk {h:Kh} {e:Ev} {l l':List Ev} (hr:Dz h (e::l')=Jd l) (ha:Ue h e=0):Dz (Hz h e) l'=Jd l:=by
 unfold Dz at hr
 rwa[if_pos ha] at hr
theorem Keq {E C:List Ev} {G:List Reg} {e:Ev} {k:Nat} (hk:E.length=k):Ue (E,C,G) e=bif (bif Jb e==0 then e.1 !=(k:Int)+1 else false) then 11 else bif (bif Jb e==0 then e.2.1.toList==Ju.toList else false) then(bif (C.length:Int)==0 then 12 else bif (C.getD (C.length-1) ev0).2.1.toList==Jk.toList then 21 else 0) else bif Jb e==0 then V1 (J7 G) e else Jb e:=by
 subst hk
 unfold Ue
 by_cases hc:Jb e=0
 ·rw[if_neg (by rw[hc];simp),hc,show((0:Int)==0)=true from rfl,cond_true,cond_true,cond_true]
  cases h1:e.1 !=(E.length:Int)+1 with
  |true=>unfold Dc;rw[h1];rfl
  |false=>
   cases h2:e.2.1.toList==Ju.toList with
   |true=>unfold Dc;rw[h1,h2];rfl
   |false=>rw[cond_false,cond_false];exact J7x (h:=(E,C,G)) (bne_eq_false_iff_eq.1 h1) h2
 ·rw[if_pos hc,beq_false_of_ne hc,cond_false,cond_false,cond_false];rfl
def Z67 (a:Kh×Nat):=Ln a.1.2.1-1
def K2o (a:List Ev) (b:Kh×Nat):=Lb (J8c a b).1 Ju
def K2d:=[V4]
def Kzi (a:Kh×Nat):=List.getD (U9::a.1.2.2) (List.length a.1.2.1) V4
def Kzd (a:Kh×Nat):=(Kzi a).2
def Kzc (a:Kh×Nat):=(Kzd a).2
def Kza (a:Kh×Nat):=(0+List.length (U9::a.1.2.2))*136≤140737488355328∧(List.length (U9::a.1.2.2)+1)*136≤140737488355328
def Ky9 (a:Kh×Nat):=(Kzc a).2
def Kkt (a:Kh×Nat):=(Ky9 a).2
def Ky6 (a:Kh×Nat):=(Kkt a).2
def Kyv (a:Kh×Nat) (b:List Ev):=(0+List.length a.1.2.1)*88≤140737488355328∧T2 (Z25 a b) ((List.length a.1.2.1+1)*88≤140737488355328)
def Kyh (a:(List Ev×List Ev×List Reg)×Nat) (b:List Ev):=Ys a.1∧Jpx a.1∧Kal a b
def Kjh (a:(List Ev×List Ev×List Reg)×Nat) (b:List Ev) (c:Kh×Nat):=Kyh a b∧List.length b-a.2<List.length b-c.2
def Kff (a:List Ev) (b:Kh×Nat):=Jb (Jy2 a b)
def Kfd (a:List Ev) (b:Kh×Nat):=Kff a b==0
def Kv0 (a:List Ev) (b:Kh×Nat):=Kfd a b=true
def Kvy (a:Kh×Nat) (b:List Ev) (c:(List Ev×List Ev×List Reg)×Nat):=a.1.2.1++[Jy2 b a]=c.1.2.1
def Kvp (a:List Ev) (b:Kh×Nat):=Kv0 a b→Z25 b a
def Ket (a:Kh×Nat):=((Kzi a).1,(Kzd a).1,(Kzc a).1,(Ky9 a).1,(Kkt a).1,E2 (Ky6 a))
def J9k (a:Kh×Nat) (b:List Ev):=Y3 (Ket a) (Jy2 b a)
def J9j (a:Kh×Nat) (b:List Ev):=V1 (Ket a) (Jy2 b a)
def J9i (a:Kh×Nat) (b:List Ev):=(J9k a b).2
def J9h (a:Kh×Nat) (b:List Ev):=(J9i a b).2
def J9g (a:Kh×Nat) (b:List Ev):=(J9h a b).2
def J9f (a:Kh×Nat) (b:List Ev):=(J9g a b).2
def Jzc (a:Kh×Nat) (b:List Ev):=Kyv a b∧Kza a∧Z35 a∧∃(y:(List Ev×List Ev×List Reg)×Nat),(Juq a y∧Sf b (Si 0 (Si 0 (Sf Vs (Sf Vs (Sf Vs (Sf Vs (Sf Vs (Kvy a b y∧U9::(a.1.2.2++K2d)=U9::y.1.2.2)))))))))∧Kjh y b a
def Jy9 (a:Kh×Nat) (b:List Ev):=T2 (Bd (Ln a.1.2.1) (Ln (U9::a.1.2.2))) (T2 (Z25 a b) (Jj (Ket a)∧Jcx (Ky6 a).1∧List.length (Kkt a).1<10000∧Kff b a=0∧K2o b a=false))∧Br (J9j a b !=0) (Z35 a∧[]=Jri b∧Jpr b∧J4x a b∧J9j a b=(Jd b).2.2) (Kyv a b∧Kza a∧Z35 a∧∃(y:(List Ev×List Ev×List Reg)×Nat),(Juq a y∧Sf b (Si 0 (Si 0 (Sf Vs (Sf Vs (Sf Vs (Sf Vs (Sf Vs (Kvy a b y∧U9::(a.1.2.2++[((J9k a b).1,(J9i a b).1,(J9h a b).1,(J9g a b).1,(J9f a b).1,E2 (J9f a b).2)])=U9::y.1.2.2)))))))))∧Kjh y b a)
def J8t (a:Kh×Nat) (b:List Ev):=Br (Ln a.1.2.1==0) (Br false (Jy9 a b) (Br true (Z35 a∧[]=Jri b∧Jpr b∧J4x a b∧12=(Jd b).2.2) (Jzc a b))) ((Iw (Z67 a)∧Tw (Bd (Z67 a) (Ln a.1.2.1)))∧Br (Lb (Gt a.1.2.1 (Z67 a) Jaa).2.1 Jk) (Br false (Jy9 a b) (Br true (Z35 a∧[]=Jri b∧Jpr b∧J4x a b∧21=(Jd b).2.2) (Jzc a b))) ((Iw (Z67 a)∧(0≤Z67 a∧Z67 a≤Ln a.1.2.1)∧0≤Ln a.1.2.1∧Ln a.1.2.1≤Ln (U9::a.1.2.2))∧Z35 a∧∃(y:(List Ev×List Ev×List Reg)×Nat),(Juq a y∧Sf b (Si 0 (Si 0 (Sf Vs (Sf Vs (Sf Vs (Sf Vs (Sf Vs (List.take (Int.toNat (Z67 a)) a.1.2.1=y.1.2.1∧List.take (List.length a.1.2.1) (U9::a.1.2.2)=U9::y.1.2.2)))))))))∧Kjh y b a))
theorem K6d:Ok Tryz.prog 82 K7i:=okW K3z Tryz.f82 (fun xx=>Zn (Kec xx.1)) fun xx=>by
 obtain⟨(l:List Ev),_⟩:=xx
 refine(by kernel_rfl:(lOk l→Br (Z94 l) ([]=Jri l∧Kj2 l) (∃(x:(List Ev×List Ev×List Reg)×Nat),(0=Nc x.2∧Sf l (Si 0 (Si 0 (Sf Vs (Sf Vs (Sf Vs (Sf Vs (Sf Vs (List.length x.1.2.1=0∧K2d=U9::x.1.2.2)))))))))∧Kyh x l∧∀(x:Kh×Nat),Ys x.1∧Jpx x.1∧Kam x l→Br (decide (Nc x.2<Ln l)) (T2 (Z25 x l) (List.length (J2w l x).1≤1000000∧List.length (J2w l x).2.1≤1000000∧∀(s:ByteArray),s∈(J2w l x).1→ByteArray.size s≤1000000)∧T2 (Kvp l x) (Kv0 l x→Z35 x)∧Br (bif Kfd l x then(J8g l x).1 !=Nc x.2+1 else false) (Tw (false=true→Z25 x l)∧Br false (J8t x l) (Br false (Jy9 x l) (Br true (Z35 x∧[]=Jri l∧Jpr l∧J4x x l∧11=(Jd l).2.2) (Jzc x l)))) (Tw (Kvp l x)∧Br (bif Kfd l x then K2o l x else false) (J8t x l) (Br (Kfd l x) (Jy9 x l) (Br (Kff l x !=0) (Z35 x∧[]=Jri l∧Jpr l∧J4x x l∧Kff l x=(Jd l).2.2) (Jzc x l))))) (Tw (Bd (Ln x.1.2.1) (Ln (U9::x.1.2.2)))∧x.1.2.1=Jri l∧Ket x=Jc l∧Kho l)))=_).mp ?_
 delta Z25 Z35 Z67 Z94 Juq Vs J4x Jaa Kho J8g J8c Dp J2w V4 K2o K2d Jpr Kzi Kzd Kzc Kam Kal Kza Ky9 Kkt Ky6 Kyv Kj2 Kyh Kjh Jy2 Kff Kfd Kv0 Kvy Kvp Ket J9k J9j J9i J9h J9g J9f Jzc Jy9 J8t Br Iw Bd T2 Tw Sf Si Ln Nc Gt B0 Lb E2 Jk Ju
 intro hl
 have hbn:({data:={toList:=[]}}:ByteArray)=Ja:=rfl
 have hev:((0:Int),Ja,([]:List ByteArray),([]:List Int),Ja)=ev0:=rfl
 have hrg:((0:Int),(0:Int),([]:List Sta),([]:List Ord),([]:List Met),([]:List Out),([]:List Per))=U9:=rfl
 have hun:({data:={toList:=[117,110,100,111]}}:ByteArray)=Ju:=rfl
 have hse:({data:={toList:=[115,101,116,116,108,101]}}:ByteArray)=Jk:=rfl
 simp only[hbn,hev,hrg,hun,hse,Prod.eta,Bool.false_eq_true,Bool.true_eq_false,false_implies,true_implies,true_and,and_true]
 refine⟨fun h=> ?_,fun h=>⟨(([],[],[]),(0:Nat)),Oe, ?_,fun(x:Kh×Nat) hk=> ?_⟩⟩
 ·have e:Jd l=(Xt,0,5):=by unfold Jd;rw[if_pos (by have:=of_decide_eq_true h;omega)]
  refine⟨?_, ?_,by rw[e],by rw[e]⟩
  ·unfold Jri;rw[e];rfl
  ·unfold Jc;rw[e];rfl
 ·have hn:l.length≤1000:=by have:=of_decide_eq_false h;omega
  exact⟨Xy,Jw0,rfl,Nat.zero_le _,hn,by unfold Jd;rw[if_neg Oo];rfl⟩
 ·obtain⟨⟨E,C,G⟩,k⟩:=x
  obtain⟨hI,hU,hk1,hk2,hk3,hk4⟩:=hk
  dsimp only at hI hU hk1 hk2 hk3 hk4⊢
  have hG:G.length=C.length:=hI.ok.nG
  have hC:C.length≤E.length:=hI.ok.nC
  have hN:=K7e hG
  have hR:Jj (J7 G):=Xj hI.ok
  have hUx:Jcx (J7 G).2.2.2.2.2.1:=Jv8 (h:=(E,C,G)) hU
  have hM:(J7 G).2.2.2.2.1.length≤E.length:=Jv9 hI
  simp only[hN]
  refine⟨fun hlt=> ?_,fun hge=> ?_⟩
  ·have hlt:(k:Int)<l.length:=of_decide_eq_true hlt
   have hz:=hl.2 _ (Je (d:=ev0) (show k<l.length by omega))
   rw[J2 (d:=ev0) Oo] at hk4
   generalize l.getD k ev0=e at*
   have hA:=Keq (C:=C) (G:=G) (e:=e) hk1
   have hT:((C.length:Int)-1).toNat=C.length-1:=by omega
   rw[hT]
   have hi64:(-9223372036854775808≤(k:Int)+1∧(k:Int)+1≤9223372036854775807):=⟨Oo,Oo⟩
   have hkk:(0≤(k:Int)∧(k:Int)<l.length):=⟨Oo,hlt⟩
   have no:∀v,Ue (E,C,G) e=v→v≠0→[]=Jri l∧U9=Jc l∧(k:Int)+1=(Jd l).2.1∧v=(Jd l).2.2:=fun v p q=>by
    have:=Kb8 hk4 p q
    dsimp only at this
    rwa[hk1] at this
   have len1:((U9::G).length:Int)=G.length+1:=by simp
   have len2:(U9::G).length=G.length+1:=by simp
   refine⟨⟨hkk,hkk,hz⟩,⟨fun _=>hkk,fun _=>hkk,fun _=>hi64⟩,fun a=>⟨hi64,no 11 (by rw[hA,a];rfl) Od⟩,fun a=>⟨⟨fun _=>hkk,fun _=>hkk⟩,fun b=>⟨fun c=>⟨hi64,no 12 (by rw[hA,a,b,c];rfl) Od⟩,fun c=> ?_⟩,fun b=>⟨fun c=> ?_,fun c=> ?_⟩⟩⟩
   ·have c0:(C.length:Int)≠0:=by simpa using c
    refine⟨⟨⟨Oo,Oo⟩,⟨Oo,Oo⟩,Oo,Oo⟩,fun d=>⟨hi64,no 21 (by rw[hA,a,b,c,d];rfl) Od⟩,fun d=> ?_⟩
    have ha:Ue (E,C,G) e=0:=by rw[hA,a,b,c,d];rfl
    have hu:(e.2.1.toList==Ju.toList)=true:=by
     cases q:Jb e==0 with
     |true=>rw[q] at b;exact b
     |false=>rw[q] at b;cases b
    have eH:Hz (E,C,G) e=(E++[e],C.take (C.length-1),G.take (C.length-1)):=by unfold Hz;rw[hu,cond_true]
    refine⟨⟨⟨Oo,Oo⟩,⟨Oo,Oo⟩,Oo,Oo⟩,hi64,(Hz (E,C,G) e,k+1),⟨by push_cast;rfl,by rw[eH], ?_⟩,⟨Jb0 hI (by show E.length<1000;omega) ha,Jyw hU ha,by rw[Xz];show E.length+1=k+1;omega,by show k+1≤l.length;omega,hk3,Jvk hk4 ha⟩,by show l.length-(k+1)<_;omega⟩
    rw[eH]
    have q:C.length=(C.length-1)+1:=by omega
    show List.take C.length (U9::G)=U9::G.take (C.length-1)
    conv=>lhs;rw[q]
    rfl
   ·have c0:Jb e=0:=by simpa using c
    have hu:(e.2.1.toList==Ju.toList)=false:=by rw[c] at b;exact b
    have hA2:Ue (E,C,G) e=V1 (J7 G) e:=by rw[hA,a,b,c];rfl
    refine⟨⟨⟨Oo,Oo⟩,⟨Oo,Oo⟩,hkk,hkk,hR,hUx,Nat.lt_of_le_of_lt hM Oo,c0,hu⟩,fun d=>⟨hi64,no _ hA2 (bne_iff_ne.1 d)⟩,fun d=> ?_⟩
    have d0:V1 (J7 G) e=0:=bne_eq_false_iff_eq.1 d
    have ha:=hA2.trans d0
    have eH:Hz (E,C,G) e=(E++[e],C++[e],G++[Jq (J7 G) e]):=by unfold Hz;rw[hu,cond_false]
    refine⟨⟨Oo,hkk,hkk,Oo⟩,⟨Oo,Oo⟩,hi64,(Hz (E,C,G) e,k+1),⟨by push_cast;rfl,by rw[eH],by rw[eH,J2r d0]⟩,⟨Jb0 hI (by show E.length<1000;omega) ha,Jyw hU ha,by rw[Xz];show E.length+1=k+1;omega,by show k+1≤l.length;omega,hk3,Jvk hk4 ha⟩,by show l.length-(k+1)<_;omega⟩
   ·have c0:Jb e≠0:=by simpa using c
    exact⟨fun d=>⟨hi64,no _ (by rw[hA,a,b,c];rfl) c0⟩,fun d=>absurd (bne_eq_false_iff_eq.1 d) c0⟩
  ·have hge:=of_decide_eq_false hge
   have:k=l.length:=by omega
   rw[this,List.drop_length,Dz] at hk4
   have eR:Jc l=J7 G:=by unfold Jc;rw[←hk4];rfl
   have eC:Jri l=C:=by unfold Jri;rw[←hk4];rfl
   have len1:((U9::G).length:Int)=G.length+1:=by simp
   exact⟨⟨⟨Oo,Oo⟩,Oo,Oo⟩,eC.symm,eR.symm,by rw[←hk4],by rw[←hk4]⟩
abbrev K3y:=K3z.add K6d
theorem Jvi {e:Ev} (h:X1 e=true):e.2.1.size≤40∧e.2.2.1.length≤6∧e.2.2.2.1.length≤8∧e.2.2.2.2.size≤200∧∀s∈e.2.2.1,s.size≤40:=by
 unfold X1 at h
 cases q:Jh8 e with
 |true=>rw[q] at h;cases h
 |false=>
  rw[q,cond_false] at h
  unfold Jh8 at q
  have q1:=bn1 q
  have q2:=bn1 q1.1
  have q3:=bn1 q2.1
  have a1:=of_decide_eq_false q1.2
  have a2:=of_decide_eq_false q2.2
  have a3:=of_decide_eq_false q3.2
  have a4:=of_decide_eq_false q3.1
  refine⟨Oo,Oo,Oo,Oo,fun s hs=> ?_⟩
  have:=List.all_eq_true.1 h s hs
  have:decide (40<(s.size:Int))=false:=by simpa using this
  have:=of_decide_eq_false this
  omega
theorem Jlt {l:List Ev} {n:Int} (hn:n≤1000) (h:X0 l n=true):lOk l∧(l.length:Int)≤n:=by
 unfold X0 at h
 cases q:decide (n<(l.length:Int)) with
 |true=>rw[q] at h;cases h
 |false=>
  rw[q,cond_false] at h
  have q:=of_decide_eq_false q
  refine⟨⟨Oo,fun e he=> ?_⟩,Oo⟩
  have b:=Jvi (List.all_eq_true.1 h e he)
  exact⟨Oo,Oo,fun s hs=>by have:=b.2.2.2.2 s hs;omega⟩
def Kc0:Con:={args:=[.val false (.list 67 sEv)],ress:=[(true,Jlu),I,I],owns:=[],pre:=fun(l,_)=>[lOk l],spec:=fun(l,_)=>(Jc l,(Jd l).2.1,(Jd l).2.2,())}
theorem K69:Ok Tryz.prog 17 Kc0:=okW K3y Tryz.f17 na fun xx=>by
 obtain⟨(l:List Ev),_⟩:=xx
 refine(by kernel_rfl:(lOk l→lOk l∧J2v l=Jc l∧Si (Jd l).2.1 ((Jd l).2.2=(Jd l).2.2))=_).mp ?_
 delta J2v Si E2
 intro hl
 exact⟨hl,rfl,rfl,rfl⟩
abbrev K3x:=K3y.add K69
def J2t (l:List Ev) (n:Int):Bool:=bif X0 l n then(Jd l).2.2==0 else false
def Ktf:Con:={args:=[.val false (.list 67 sEv),aI],ress:=[Bo],owns:=[],pre:=fun(_,n,_)=>[n≤1000],spec:=fun(l,n,_)=>(J2t l n,())}
theorem K6t:Ok Tryz.prog 53 Ktf:=okW K3x Tryz.f53 na fun xx=>by
 obtain⟨(l:List Ev),(n:Int),_⟩:=xx
 refine(by kernel_rfl:(n≤1000→n≤1000000∧Br (!X0 l n) (false=J2t l n) (lOk l∧((Jd l).2.2==0)=J2t l n))=_).mp ?_
 delta Br
 intro hn
 refine⟨Oo,fun h=> ?_,fun h=> ?_⟩
 ·have h:X0 l n=false:=by simpa using h
  unfold J2t;rw[h];rfl
 ·have h:X0 l n=true:=by simpa using h
  refine⟨(Jlt hn h).1, ?_⟩
  unfold J2t;rw[h];rfl
abbrev K8j:=K3x.add K6t
abbrev K8i:=K8j
abbrev K8h:=K8i
abbrev K8g:=K8h
abbrev K8f:=K8g
abbrev K8e:=K8f
abbrev K8d:=K8e
abbrev K8c:=K8d
theorem Jhy {Pr:Kh→Prop} (h0:Pr Xt) (hs:∀h e,Ys h→h.1.length<1000→Pr h→Ue h e=0→Pr (Hz h e)) (l:List Ev):Pr (Jd l).1:=by
 have go:∀(l:List Ev) (h:Kh),Ys h→Pr h→h.1.length+l.length≤1000→Pr (Dz h l).1:=by
  intro l
  induction l with
  |nil=>intro h _ hp _;exact hp
  | cons e l ih =>
   intro h hi hp hl
   unfold Dz
   simp only[List.length_cons] at hl
   by_cases ha:Ue h e=0
   ·rw[if_pos ha]
    exact ih _ (Jb0 hi Oo ha) (hs h e hi Oo hp ha) (by rw[Xz];omega)
   ·rw[if_neg ha];exact hp
 unfold Jd
 by_cases h:1000<l.length
 ·rw[if_pos h];exact h0
 ·rw[if_neg h];exact go l _ Xy h0 (by show 0+l.length≤1000;omega)
abbrev K8b:=K8c
structure K9m (h:Kh) (k:Nat):Prop where
 ok:Jj (J7 (h.2.2.take k))
 uni:Jcx (J7 (h.2.2.take k)).2.2.2.2.2.1
 met:(J7 (h.2.2.take k)).2.2.2.2.1.length<10000
abbrev K8a:=K8b
abbrev K79:=K8a
def K9k (s:Int) (x y:Ord):Prop:=(y.1=x.1∧y.2.2.2.1=x.2.2.2.1∧y.2.2.2.2.1=x.2.2.2.2.1∧y.2.2.2.2.2.1=x.2.2.2.2.2.1)∧(y.2.2.2.2.2.2=x.2.2.2.2.2.2∨(x.2.2.2.2.2.2= -1∧s≤y.2.2.2.2.2.2))
structure K9l (r R:Reg):Prop where
 st:r.2.1≤R.2.1
 len:r.2.2.2.1.length≤R.2.2.2.1.length
 old:∀k,k<r.2.2.2.1.length→K9k r.2.1 (r.2.2.2.1.getD k Kb) (R.2.2.2.1.getD k Kb)
 new:∀k,r.2.2.2.1.length≤k→k<R.2.2.2.1.length→r.2.1≤(R.2.2.2.1.getD k Kb).2.2.2.1.1
 met:∃m,R.2.2.2.2.1=r.2.2.2.2.1++m∧∀y∈m,r.2.1≤y.2.1
theorem Jq7 {α:Type} {l:List α} {i k:Nat} {x d:α} (h:i<l.length):(l.set i x).getD k d=if i=k then x else l.getD k d:=by
 rw[List.getD_eq_getElem?_getD,List.getD_eq_getElem?_getD,List.getElem?_set]
 by_cases q:i=k
 ·subst q;rw[if_pos rfl,if_pos rfl,if_pos h];rfl
 ·rw[if_neg q,if_neg q]
theorem Kd6 {c:Bool} {v:Int} (h:(bif c then v else 0)=0) (hv:v≠0):c=false:=by
 cases c with
 |false=>rfl
 |true=>exact absurd h hv
theorem Kin {a b:Bool} (h:(bif a then true else b)=false):a=false∧b=false:=by
 cases a with
 |true=>cases h
 |false=>exact⟨rfl,h⟩
theorem Jqk:∀{a:List Ev} {h:Kh},(Dz h a).2.2=0→(Dz h a).1.1.length=h.1.length+a.length
 |[],h,_=>rfl
 | e :: a, h, h0 => by
  unfold Dz at h0⊢
  by_cases ha:Ue h e=0
  ·rw[if_pos ha] at h0⊢
   rw[Jqk h0,Xz,List.length_cons];omega
  ·rw[if_neg ha] at h0;exact absurd h0 ha
structure K9j (l:List Ev) (i:Nat):Prop where
 err:(Jd (l.take (i+1))).2.2=0
 st:(Jc (l.take (i+1))).2.1=(l.getD i ev0).2.2.2.1.getD 1 0
 two:(l.getD i ev0).2.2.2.1.length=2
 miss:Ks (Jc (l.take (i+1))).2.2.2.2.1 (Jc (l.take (i+1))).2.1 (Jc (l.take (i+1))).2.2.2.1=[]
 fin:K9l (Jc (l.take (i+1))) (Jc l)
 undo:K78 (l.take (i+1)) ((i:Int)+2,Ju,[],[],Ja)=21
theorem J6k {r:Reg} {e:Ev}:(doS r e).2.2.2.1.length≤r.2.2.2.1.length+1:=by
 obtain⟨tk,st,S,O,M,X,Q⟩:=r
 obtain⟨n,k,ns,vs,tx⟩:=e
 unfold doS
 split<;>first|exact Nat.le_succ _|(show(O++[_]).length≤O.length+1;simp;done)|(show(Vj O _ _).length≤O.length+1;unfold Vj;rw[List.length_set];exact Nat.le_succ _)
def Jsl (h:Kh):Prop:=∀r∈h.2.2,r.2.2.2.1.length≤h.1.length
theorem J3x {h:Kh} (hn:Jsl h):(J7 h.2.2).2.2.2.1.length≤h.1.length:=by
 unfold J7
 by_cases h0:0<h.2.2.length
 ·exact hn _ (Je Oo)
 ·have:h.2.2=[]:=List.eq_nil_of_length_eq_zero Oo
  rw[this];exact Nat.zero_le _
theorem Ker {h:Kh} {e:Ev} (hn:Jsl h):Jsl (Hz h e):=by
 intro r hr
 rw[Xz]
 unfold Hz at hr
 cases hk:e.2.1.toList==Ju.toList with
 |true=>
  rw[hk,cond_true] at hr
  have:=hn r (List.mem_of_mem_take hr)
  omega
 | false =>
  rw[hk,cond_false] at hr
  rcases Vu hr with hr|hr
  ·have:=hn r hr;omega
  ·subst hr
   have h1:=J3x hn
   have h2:=J6k (r:=J7 h.2.2) (e:=e)
   show(doS (J7 h.2.2) e).2.2.2.1.length≤_
   omega
theorem J5t {l:List Ev} (h0:(Jd l).2.2=0) (hl:l.length<1000):(Jc l).2.2.2.1.length≤l.length:=by
 have hn:Jsl (Jd l).1:=Jhy (fun _ h=>(by cases h)) (fun _ _ _ _ hp _=>Ker hp) l
 have e:Jd l=Dz Xt l:=by unfold Jd;rw[if_neg Oo]
 have h1:=J3x hn
 have h2:(Jd l).1.1.length=l.length:=by
  rw[e] at h0⊢
  rw[Jqk h0];show 0+_=_;omega
 unfold Jc
 rw[if_pos h0]
 omega
def Kby (O:List Ord):Prop:=(O.map fun x=>x.1).Nodup
theorem Jq5:∀{l:List Ord} {k:Nat} {x:Ord},(l.map fun x=>x.1).Nodup→x∈l→∃i,Vx (fun y:Ord=>y.1.toList==x.1.toList) l k=((k+i:Nat):Int)∧i<l.length∧l.getD i Kb=x
 |[],_,_,_,h=>by cases h
 | y :: l, k, x, hn, h => by
  rw[List.map_cons,List.nodup_cons] at hn
  unfold Vx
  by_cases q:(y.1.toList==x.1.toList)=true
  ·have q1:=Vy q
   rw[if_pos q]
   rcases List.mem_cons.1 h with h|h
   ·exact⟨0,rfl,by simp,h.symm⟩
   ·exact absurd (q1▸List.mem_map_of_mem (f:=fun z:Ord=>z.1) h) hn.1
  ·rw[if_neg q]
   rcases List.mem_cons.1 h with h|h
   ·subst h;exact absurd (beq_self_eq_true _) q
   ·obtain⟨i,h1,h2,h3⟩:=Jq5 (k:=k+1) hn.2 h
    exact⟨i+1,by rw[h1];congr 1;omega,by simp;omega,h3⟩
theorem J5a {O:List Ord} (h:Kby O) {x:Ord} (hx:x∈O):Vk O x.1=x:=by
 obtain⟨i,h1,_,h3⟩:=Jq5 (k:=0) h hx
 unfold Vk Kd
 rw[h1,Nat.zero_add,Int.toNat_natCast]
 exact h3
theorem Jn5 {O:List Ord} {x:Ord} (h:Kby O) (hn:Kd O x.1<0):Kby (O++[x]):=by
 unfold Kby at h⊢
 rw[List.map_append,List.nodup_append]
 refine⟨h,by simp,fun a ha b hb=> ?_⟩
 obtain⟨y,hy,rfl⟩:=List.mem_map.1 ha
 have hb:b=x.1:=by simpa using hb
 subst hb
 intro e
 have:=Jbf hn y hy
 rw[e,beq_self_eq_true] at this
 cases this
theorem Jsz {O:List Ord} {s:ByteArray} {v:Int}:(Vj O s v).map (fun x=>x.1)=O.map fun x=>x.1:=by
 unfold Vj
 rw[List.map_set]
 apply List.ext_getElem?
 intro i
 rw[List.getElem?_set]
 by_cases q:(Kd O s).toNat=i
 ·rw[if_pos q]
  subst q
  by_cases hl:(Kd O s).toNat<(O.map fun x:Ord=>x.1).length
  ·rw[if_pos hl,List.getElem?_map]
   rw[List.length_map] at hl
   unfold Vk
   rw[List.getD_eq_getElem?_getD,List.getElem?_eq_getElem hl]
   rfl
  ·rw[if_neg hl,List.getElem?_eq_none Oo]
 ·rw[if_neg q]
def K5t (O:List Ord) (M:List Met):Prop:=∀m∈M,0≤Kd O m.1∧m.2.2.1≤(Vk O m.1).2.2.2.2.1
theorem J03 {O:List Ord} {x:Ord} {s:ByteArray} (h:0≤Kd O s):Vk (O++[x]) s=Vk O s:=by
 have e:Kd (O++[x]) s=Kd O s:=Vn h
 have:=Uj (l:=O) (s:=s)
 unfold Vk
 rw[e,Fe Oo]
theorem Jv5 {O:List Ord} {a s:ByteArray} {v:Int} (h:0≤Kd O a):(Vk (Vj O a v) s).2.2.2.2.1=(Vk O s).2.2.2.2.1:=by
 have hl:=Uj (l:=O) (s:=a)
 have e:∀k,((Vj O a v).getD k Kb).2.2.2.2.1=(O.getD k Kb).2.2.2.2.1:=fun k=>by
  unfold Vj
  rw[Jq7 Oo]
  by_cases q:(Kd O a).toNat=k
  ·rw[if_pos q];subst q;rfl
  ·rw[if_neg q]
 unfold Vk
 rw[Ll]
 exact e _
def Jav (r:Reg):Prop:=∀s,0≤Jn r.2.2.1 s→∀h,r.1≤h→0≤Uz r.2.2.1 r.2.2.2.1 r.2.2.2.2.2.1 s h
structure J43 (r:Reg):Prop where
 uni:Kby r.2.2.2.1
 pow:K5t r.2.2.2.1 r.2.2.2.2.1
 room:Jav r
theorem Jwm {O:List Ord} {x:Ord} {s:ByteArray} {h:Int}:K5 (O++[x]) s h=K5 O s h+(bif bif Yg x s then Jh x h else false then x.2.2.2.2.1 else 0):=by
 induction O with
 |nil=>show _+0=0+_;omega
 |cons y O ih=>
  rw[List.cons_append,K5,K5,ih];omega
theorem Jmn {y:Ord} {s:ByteArray} {h:Int}:∀{O:List Ord} {i:Nat},i<O.length→(bif bif Yg y s then Jh y h else false then y.2.2.2.2.1 else 0)≤(bif bif Yg (O.getD i Kb) s then Jh (O.getD i Kb) h else false then(O.getD i Kb).2.2.2.2.1 else 0)→K5 (O.set i y) s h≤K5 O s h
 |[],_,hi,_=>by cases hi
 |x::O,0,_,hy=>by
  rw[List.set_cons_zero,K5,K5]
  have hy:_≤(bif bif Yg x s then Jh x h else false then x.2.2.2.2.1 else 0):=hy
  omega
 |x::O,i+1,hi,hy=>by
  rw[List.set_cons_succ,K5,K5]
  have:=Jmn (O:=O) (i:=i) (by simpa using hi) hy
  omega
theorem Jh9 {s:ByteArray} {h:Int}:∀{O:List Ord},(∀x∈O,Yg x s=false)→K5 O s h=0
 |[],_=>rfl
 |x::O,hO=>by
  rw[K5,hO x (List.mem_cons_self ..),Jh9 fun y hy=>hO y (List.mem_cons_of_mem _ hy)];rfl
theorem Jm7 {s:ByteArray} {h:Int}:∀{X:List Out} {a b:Int},a≤b→L8 X s h a≤L8 X s h b
 |[],_,_,hab=>hab
 |x::X,a,b,hab=>by
  unfold L8
  refine Jm7 ?_
  cases Jff x s h with
  |true=>simp only[cond_true];omega
  |false=>exact hab
theorem Jrn {x:Out} {s:ByteArray} {h:Int}:∀{X:List Out} {n:Int},L8 (X++[x]) s h n=(bif Jff x s h then min (L8 X s h n) x.2.2.2 else L8 X s h n)
 |[],n=>rfl
 |y::X,n=>by rw[List.cons_append,L8,L8,Jrn]
theorem Jrm {y:Out} {s:ByteArray} {h:Int}:∀{X:List Out} {i:Nat} {n:Int},i<X.length→(Jff y s h=true→Jff (X.getD i Jax) s h=true∧y.2.2.2=(X.getD i Jax).2.2.2)→L8 X s h n≤L8 (X.set i y) s h n
 |[],_,_,hi,_=>by cases hi
 | x :: X, 0, n, _, hy => by
  rw[List.set_cons_zero,L8,L8]
  have hy:Jff y s h=true→Jff x s h=true∧y.2.2.2=x.2.2.2:=hy
  refine Jm7 ?_
  cases q:Jff y s h with
  |true=>
   rw[(hy q).1,(hy q).2];exact Int.le_refl _
  |false=>
   cases Jff x s h with
   |true=>simp only[cond_true,cond_false];omega
   |false=>exact Int.le_refl _
 |x::X,i+1,n,hi,hy=>by
  rw[List.set_cons_succ,L8,L8]
  exact Jrm (X:=X) (i:=i) (by simpa using hi) hy
theorem Jm6 {s:ByteArray} {h:Int}:∀{X:List Out} {n:Int},(∀x∈X,Jff x s h=false)→L8 X s h n=n
 |[],_,_=>rfl
 |x::X,n,hX=>by
  rw[L8,hX x (List.mem_cons_self ..),cond_false,Jm6 fun y hy=>hX y (List.mem_cons_of_mem _ hy)]
theorem Jyn {f:Int→Bool}:∀{n:Nat} {a:Int},Jpm f a n=false→∀h,a≤h→h<a+n→f h=false
 |0,a,_,h,h1,h2=>by omega
 |n+1,a,hf,h,h1,h2=>by
  unfold Jpm at hf
  have:=Kin hf
  by_cases q:h=a
  ·subst q;exact this.1
  ·exact Jyn this.2 h Oo (by push_cast at h2;omega)
theorem Jam {s:Int×Int} {h:Int} (hi:Kk s h=true):s.1≤h∧h<s.2:=by
 unfold Kk at hi
 rw[Hy,Bool.and_eq_true] at hi
 exact⟨of_decide_eq_true hi.1,of_decide_eq_true hi.2⟩
theorem Jgl {x:Ord} {h:Int} (hc:Jh x h=true):x.2.2.2.1.1≤h∧h<x.2.2.2.1.2:=by
 unfold Jh at hc
 rw[Hy,Bool.and_eq_true] at hc
 exact Jam hc.1
theorem Ja9 {tk tk' st st':Int} {S:List Sta} {O:List Ord} {M M':List Met} {X:List Out} {Q Q':List Per} (hi:Jav (tk,st,S,O,M,X,Q)) (ht:tk≤tk'):Jav (tk',st',S,O,M',X,Q'):=fun s hs h hh=>hi s hs h (Int.le_trans ht hh)
theorem Js8 {tk tk' st st':Int} {S:List Sta} {O:List Ord} {M:List Met} {X:List Out} {Q:List Per} {x:Ord} (hi:Jav (tk,st,S,O,M,X,Q)) (ht:tk≤tk') (hf:∀h,x.2.2.2.1.1≤h→h<x.2.2.2.1.2→x.2.2.2.2.1≤Uz S O X x.2.1 h∧x.2.2.2.2.1≤Uz S O X x.2.2.1 h):Jav (tk',st',S,O++[x],M,X,Q):=by
 intro s hs h hh
 have h1:0≤Uz S O X s h:=hi s hs h (Int.le_trans ht hh)
 show 0≤Uz S (O++[x]) X s h
 unfold Uz at h1⊢
 rw[Jwm]
 cases q:(bif Yg x s then Jh x h else false) with
 |false=>simp only[cond_false];omega
 | true =>
  rw[Hy,Bool.and_eq_true] at q
  obtain⟨c1,c2⟩:=Jgl q.2
  obtain⟨f1,f2⟩:=hf h c1 c2
  unfold Uz at f1 f2
  simp only[cond_true]
  have qa:=q.1
  unfold Yg at qa
  cases e:x.2.1.toList==s.toList with
  |true=>
   have:=Vy e
   rw[this] at f1;omega
  |false=>
   rw[e,cond_false] at qa
   have:=Vy qa
   rw[this] at f2;omega
theorem Jvq {tk tk' st st' v:Int} {S:List Sta} {O:List Ord} {M:List Met} {X:List Out} {Q:List Per} {a:ByteArray} (hi:Jav (tk,st,S,O,M,X,Q)) (ht:tk≤tk') (hf:0≤Kd O a) (hp:0≤(Vk O a).2.2.2.2.1) (hn:(Vk O a).2.2.2.2.2.2= -1):Jav (tk',st',S,Vj O a v,M,X,Q):=by
 intro s hs h hh
 have h1:0≤Uz S O X s h:=hi s hs h (Int.le_trans ht hh)
 show 0≤Uz S (Vj O a v) X s h
 have hl:=Uj (l:=O) (s:=a)
 have:K5 (Vj O a v) s h≤K5 O s h:=by
  unfold Vj
  refine Jmn Oo ?_
  show _≤(bif bif Yg (Vk O a) s then Jh (Vk O a) h else false then(Vk O a).2.2.2.2.1 else 0)
  have e:Yg ((Vk O a).1,(Vk O a).2.1,(Vk O a).2.2.1,(Vk O a).2.2.2.1,(Vk O a).2.2.2.2.1,(Vk O a).2.2.2.2.2.1,v) s=Yg (Vk O a) s:=rfl
  rw[e]
  cases Yg (Vk O a) s with
  |false=>exact Int.le_refl _
  | true =>
   simp only[cond_true]
   cases q:Jh ((Vk O a).1,(Vk O a).2.1,(Vk O a).2.2.1,(Vk O a).2.2.2.1,(Vk O a).2.2.2.2.1,(Vk O a).2.2.2.2.2.1,v) h with
   |false=>
    simp only[cond_false]
    cases Jh (Vk O a) h with
    |true=>exact hp
    |false=>exact Int.le_refl _
   | true =>
    have:Jh (Vk O a) h=true:=by
     unfold Jh at q⊢
     rw[Hy,Bool.and_eq_true] at q
     have q1:Kk (Vk O a).2.2.2.1 h=true:=q.1
     rw[q1,hn];rfl
    rw[this];exact Int.le_refl _
 unfold Uz at h1⊢
 omega
theorem Joi {tk tk' st st':Int} {S:List Sta} {O:List Ord} {M:List Met} {X:List Out} {Q:List Per} {x:Out} (hi:Jav (tk,st,S,O,M,X,Q)) (ht:tk≤tk') (hf:∀h,x.2.2.1.1≤h→h<x.2.2.1.2→K5 O x.2.1 h≤x.2.2.2):Jav (tk',st',S,O,M,X++[x],Q):=by
 intro s hs h hh
 have h1:0≤Uz S O X s h:=hi s hs h (Int.le_trans ht hh)
 show 0≤Uz S O (X++[x]) s h
 unfold Uz at h1⊢
 rw[Jrn]
 cases q:Jff x s h with
 |false=>exact h1
 |true=>
  unfold Jff at q
  rw[Hy,Bool.and_eq_true] at q
  obtain⟨c1,c2⟩:=Jam q.2
  have:=hf h c1 c2
  rw[Vy q.1] at this
  simp only[cond_true]
  omega
theorem Jlz {tk tk' st st' v:Int} {S:List Sta} {O:List Ord} {M:List Met} {X:List Out} {Q:List Per} {a:ByteArray} (hi:Jav (tk,st,S,O,M,X,Q)) (ht:tk≤tk') (hf:0≤J6 X a) (hv:v≤(Le X a).2.2.1.2):Jav (tk',st',S,O,M,Jad X a v,Q):=by
 intro s hs h hh
 have h1:0≤Uz S O X s h:=hi s hs h (Int.le_trans ht hh)
 show 0≤Uz S O (Jad X a v) s h
 have hl:=Ut (l:=X) (s:=a)
 have:L8 X s h (Yi S s).2.1≤L8 (Jad X a v) s h (Yi S s).2.1:=by
  unfold Jad
  refine Jrm Oo fun q=> ?_
  show Jff (Le X a) s h=true∧_
  refine⟨?_,rfl⟩
  unfold Jff at q⊢
  rw[Hy,Bool.and_eq_true] at q⊢
  obtain⟨c1,c2⟩:=Jam q.2
  have c1:(Le X a).2.2.1.1≤h:=c1
  have c2:h<v:=c2
  refine⟨q.1, ?_⟩
  unfold Kk
  rw[decide_eq_true c1,decide_eq_true (show h<(Le X a).2.2.1.2 by omega)]
  rfl
 unfold Uz at h1⊢
 omega
theorem Js7 {tk tk' st st' v:Int} {S:List Sta} {O:List Ord} {M:List Met} {X:List Out} {Q:List Per} {a:ByteArray} (hi:Jav (tk,st,S,O,M,X,Q)) (ht:tk≤tk') (hf:0≤Jn S a):Jav (tk',st',S.set (Jn S a).toNat ((Yi S a).1,(Yi S a).2.1,v),O,M,X,Q):=by
 have hl:=Kt (l:=S) (s:=a)
 have en:∀s,Jn (S.set (Jn S a).toNat ((Yi S a).1,(Yi S a).2.1,v)) s=Jn S s:=fun s=>by
  unfold Jn
  exact L0 fun x hx=>by
   have e:Yi S a=x:=Jck hx
   rw[e]
 have el:∀s,(Yi (S.set (Jn S a).toNat ((Yi S a).1,(Yi S a).2.1,v)) s).2.1=(Yi S s).2.1:=fun s=>by
  have e:∀k,((S.set (Jn S a).toNat ((Yi S a).1,(Yi S a).2.1,v)).getD k X4).2.1=(S.getD k X4).2.1:=fun k=>by
   rw[Jq7 Oo]
   by_cases q:(Jn S a).toNat=k
   ·rw[if_pos q];subst q;rfl
   ·rw[if_neg q]
  show((S.set (Jn S a).toNat ((Yi S a).1,(Yi S a).2.1,v)).getD (Jn (S.set (Jn S a).toNat ((Yi S a).1,(Yi S a).2.1,v)) s).toNat X4).2.1=_
  rw[en]
  exact e _
 intro s hs h hh
 have hs:0≤Jn (S.set (Jn S a).toNat ((Yi S a).1,(Yi S a).2.1,v)) s:=hs
 rw[en] at hs
 have h1:0≤Uz S O X s h:=hi s hs h (Int.le_trans ht hh)
 show 0≤Uz (S.set (Jn S a).toNat ((Yi S a).1,(Yi S a).2.1,v)) O X s h
 unfold Uz at h1⊢
 rw[el]
 exact h1
theorem Jly {tk tk' st st':Int} {S:List Sta} {O:List Ord} {M:List Met} {X:List Out} {Q:List Per} {x:Sta} (hr:Jj (tk,st,S,O,M,X,Q)) (hi:Jav (tk,st,S,O,M,X,Q)) (ht:tk≤tk') (hf:Jn S x.1<0) (hx:0≤x.2.1):Jav (tk',st',S++[x],O,M,X,Q):=by
 intro s hs h hh
 show 0≤Uz (S++[x]) O X s h
 by_cases q:0≤Jn S s
 ·have h1:0≤Uz S O X s h:=hi s q h (Int.le_trans ht hh)
  have e:Jn (S++[x]) s=Jn S s:=Vn q
  have hl:=Kt (l:=S) (s:=s)
  unfold Uz Yi at h1⊢
  rw[e,Fe Oo]
  exact h1
 ·have hs:0≤Jn (S++[x]) s:=hs
  obtain⟨i,h1,h2⟩:=Jfx (d:=X4) (show 0≤Vx (fun y:Sta=>y.1.toList==s.toList) (S++[x]) 0 from hs)
  rw[Nat.zero_add] at h1
  have hil:i=S.length:=by
   by_cases q2:i<S.length
   ·rw[Fe q2] at h2
    exact absurd (Jbf (l:=S) (k:=0) (p:=fun y:Sta=>y.1.toList==s.toList) (by show Jn S s<0;omega) _ (Je q2)) (by rw[h2];simp)
   ·have:=Kt (l:=S++[x]) (s:=s)
    have h1:Jn (S++[x]) s=(i:Int):=h1
    rw[List.length_append,List.length_singleton] at this
    omega
  have e:Yi (S++[x]) s=x:=by
   unfold Yi
   rw[show Jn (S++[x]) s=(i:Int) from h1,Int.toNat_natCast,hil,Jf2]
  have e0:∀t,0≤Jn S t→(t.toList==s.toList)=false:=fun t h3=>by
   cases q3:t.toList==s.toList with
   |false=>rfl
   |true=>rw[Vy q3] at h3;exact absurd h3 q
  unfold Uz
  rw[e,Jm6 fun y hy=> ?_,Jh9 fun y hy=> ?_]
  ·omega
  ·have:=hr.ord y hy
   unfold Yg
   rw[e0 _ this.fr,e0 _ this.tu];rfl
  ·have:=hr.out y hy
   unfold Jff
   rw[e0 _ this.sta];rfl
theorem Jp0 {r:Reg} {ns:List ByteArray} {w:Int} {b:Bool} {l:List (Int×Bool)} {i:Nat} (h:Kq r ns ((w,b)::l) i=false):(b=false→Vq r w (ns.getD i Ja)=false)∧Kq r ns l (i+1)=false:=by
 unfold Kq at h
 cases b with
 |true=>exact⟨fun f=>(by cases f),h⟩
 |false=>
  have:=Kin h
  exact⟨fun _=>by simpa using this.1,this.2⟩
theorem Jwu {h:Kh} {e:Ev} (hh:Ke h) (hI:J43 (J7 h.2.2)) (hc:Jb e=0) (ha:Dc h e=0) (hk:(e.2.1.toList==Ju.toList)=false):J43 (Jq (J7 h.2.2) e):=by
 obtain⟨n,k,ns,vs,tx⟩:=e
 have hE:=Ud hc
 have eK:=Yz (h:=h) (n:=n) (k:=k) (ns:=ns) (vs:=vs) (tx:=tx) hk
 rw[ha] at eK
 obtain⟨_,z2,z3,z4,z5⟩:=D9 eK.symm
 have hr:=Xj hh
 clear eK ha
 generalize J7 h.2.2=R at*
 obtain⟨tk,st,S,O,M,X,Q⟩:=R
 have z2:¬vs.getD 0 0<tk:=z2
 have ht:tk≤vs.getD 0 0:=by omega
 have hkd:=Vd hE.kind
 obtain⟨hu,hp,hi⟩:=hI
 have hu:Kby O:=hu
 have hp:K5t O M:=hp
 dsimp only at hkd hk
 clear hc hh
 rcases hkd with h|h|h|h|h|h|h|h|h|h|h<;>subst h
 ·exact absurd hk (by rw[show(Ju.toList==Ju.toList)=true from by kernel_rfl];decide)
 ·simp only[Kp] at z4
  simp only[ckS,Kp] at z5
  simp only[Jq,doS,Kp]
  have f:=(Jp0 z4).1 rfl
  rw[Jdv] at f
  have f:=of_decide_eq_false f
  have w:=U4.1 (Yo z5).1
  exact⟨hu,hp,Jly (x:=(ns.getD 0 Ja,vs.getD 1 0,0)) hr hi ht (by have f:¬0≤Jn S (ns.getD 0 Ja):=f;show Jn S (ns.getD 0 Ja)<0;omega) (by show 0≤vs.getD 1 0;omega)⟩
 ·simp only[U6] at z3
  simp only[Jq,doS,U6]
  exact⟨hu,hp,Js7 hi ht (Jq6 ((Jl z3).1 rfl))⟩
 ·simp only[Uh] at z4
  simp only[ckS,Uh] at z5
  simp only[Jq,doS,Uh]
  have f:=(Jp0 z4).1 rfl
  rw[Jf1] at f
  have f:=of_decide_eq_false f
  unfold Jbs at z5
  by_cases q:Jbr (n,Ki,ns,vs,tx)≠0
  ·rw[if_pos q] at z5;exact absurd z5 q
  rw[if_neg q] at z5
  have q:Jbr (n,Ki,ns,vs,tx)=0:=by simpa using q
  unfold Jbr at q
  have w:=U4.1 (L2 q).2.2
  have hfull:=Kd6 (Yo z5).1 Od
  refine⟨Jn5 hu (by show Kd O (ns.getD 0 Ja)<0;dsimp only at f;omega),fun m hm=> ?_,Js8 hi ht fun h h1 h2=> ?_⟩
  ·obtain⟨p1,p2⟩:=hp m hm
   refine⟨?_, ?_⟩
   ·show 0≤Kd (O++[_]) m.1
    unfold Kd at p1⊢;rw[Vn p1];exact p1
   ·show m.2.2.1≤(Vk (O++[_]) m.1).2.2.2.2.1
    rw[J03 p1];exact p2
  ·unfold Jtv Zf at hfull
   have:=Jyn hfull h h1 (by have h1:(Vt (n,Ki,ns,vs,tx)).1≤h:=h1;have h2:h<(Vt (n,Ki,ns,vs,tx)).2:=h2;omega)
   have:=of_decide_eq_false this
   dsimp only at this⊢
   constructor<;>omega
 ·simp only[Ui] at z3
  have f0:=Jzt ((Jl z3).1 rfl)
  simp only[ckS,Ui] at z5
  simp only[Jq,doS,Ui]
  refine⟨hu,fun m hm=> ?_,Ja9 hi ht⟩
  rcases Vu hm with hm|hm
  ·exact hp m hm
  ·subst hm
   refine⟨f0, ?_⟩
   unfold Jko at z5
   have y:=Uw.1 z5 (bif (bif decide ((Vk O (ns.getD 0 Ja)).2.2.2.2.1<vs.getD 2 0) then true else decide (vs.getD 2 0<vs.getD 3 0)) then 3 else 0) (by simp)
   have y:=of_decide_eq_false (Kin (Kd6 y Od)).1
   show vs.getD 2 0≤(Vk O (ns.getD 0 Ja)).2.2.2.2.1
   omega
 ·simp only[Vl] at z3
  have f0:=Jzt ((Jl z3).1 rfl)
  simp only[ckS,Vl] at z5
  simp only[Jq,doS,Vl]
  have y:=Kin (Kd6 z5 Od)
  refine⟨by show((Vj O _ _).map fun x=>x.1).Nodup;rw[Jsz];exact hu,fun m hm=> ?_,Jvq hi ht f0 (by have h1:1≤(Vk O (ns.getD 0 Ja)).2.2.2.2.1:=(hr.ord _ (Jag f0)).pow.1;omega) (bne_eq_false_iff_eq.1 y.1)⟩
  obtain⟨p1,p2⟩:=hp m hm
  exact⟨by show 0≤Kd (Vj O _ _) m.1;rw[Ll];exact p1,by show m.2.2.1≤(Vk (Vj O _ _) m.1).2.2.2.2.1;rw[Jv5 f0];exact p2⟩
 ·simp only[ckS,Kr] at z5
  simp only[Jq,doS,Kr]
  refine⟨hu,hp,Joi hi ht fun h h1 h2=> ?_⟩
  unfold Jbq at z5
  by_cases q:Jgm S (n,Js,ns,vs,tx)≠0
  ·rw[if_pos q] at z5;exact absurd z5 q
  rw[if_neg q] at z5
  have hcr:=Kd6 (Yo z5).1 Od
  unfold Zf at hcr
  have:=Jyn hcr h h1 (by have h1:(Vt (n,Js,ns,vs,tx)).1≤h:=h1;have h2:h<(Vt (n,Js,ns,vs,tx)).2:=h2;omega)
  have:=of_decide_eq_false this
  dsimp only at this⊢
  omega
 ·simp only[J5] at z3
  have f0:=J1n ((Jl z3).1 rfl)
  simp only[ckS,J5] at z5
  simp only[Jq,doS,J5]
  have y:=of_decide_eq_false (Kd6 (L2 z5).2.1 Od)
  exact⟨hu,hp,Jlz hi ht f0 Oo⟩
 ·simp only[Jq,doS,K1];exact⟨hu,hp,Ja9 hi ht⟩
 ·simp only[Jq,doS,K0];exact⟨hu,hp,Ja9 hi ht⟩
 ·simp only[Jq,doS,Uy];exact⟨hu,hp,Ja9 hi ht⟩
theorem J31:J43 U9:=⟨List.nodup_nil,fun _ h=>(by cases h),fun s h=>absurd h (by show ¬(0:Int)≤-1;decide)⟩
def J3i (h:Kh):Prop:=∀r∈h.2.2,J43 r
theorem Kcn {h:Kh} (hv:J3i h):J43 (J7 h.2.2):=by
 unfold J7
 by_cases h0:0<h.2.2.length
 ·exact hv _ (Je Oo)
 ·have:h.2.2=[]:=List.eq_nil_of_length_eq_zero Oo
  rw[this];exact J31
theorem Ktr {h:Kh} {e:Ev} (hi:Ys h) (hv:J3i h) (ha:Ue h e=0):J3i (Hz h e):=by
 obtain⟨hc,hacc⟩:=add_zero ha
 intro r hr
 unfold Hz at hr
 cases hk:e.2.1.toList==Ju.toList with
 |true=>
  rw[hk,cond_true] at hr
  exact hv r (List.mem_of_mem_take hr)
 |false=>
  rw[hk,cond_false] at hr
  rcases Vu hr with hr|hr
  ·exact hv r hr
  ·subst hr;exact Jwu hi.ok (Kcn hv) hc hacc hk
theorem J1j {l:List Ev}:J43 (Jc l):=by
 have hv:J3i (Jd l).1:=Jhy (fun _ h=>(by cases h)) (fun _ _ hi _ hp ha=>Ktr hi hp ha) l
 unfold Jc
 by_cases h:(Jd l).2.2=0
 ·rw[if_pos h];exact Kcn hv
 ·rw[if_neg h];exact J31
def U3 {α:Type} (f:α→Int):List α→Int
 |[]=>0
 |x::l=>f x+U3 f l
theorem Xn {α:Type} {f g:α→Int}:∀{l:List α},(∀x∈l,f x=g x)→U3 f l=U3 g l
 |[],_=>rfl
 |x::l,h=>by rw[U3,U3,h x (List.mem_cons_self ..),Xn fun y hy=>h y (List.mem_cons_of_mem _ hy)]
theorem Jp5 {α:Type} {f g:α→Int}:∀{l:List α},U3 (fun x=>f x+g x) l=U3 f l+U3 g l
 |[]=>rfl
 |x::l=>by rw[U3,U3,U3,Jp5];omega
theorem Ji9 {α:Type} {f:α→Int}:∀{l:List α},U3 (fun x=> -f x) l= -U3 f l
 |[]=>rfl
 |x::l=>by rw[U3,U3,Ji9];omega
theorem Jlm {α:Type}:∀{l:List α},U3 (fun _=>0) l=0
 |[]=>rfl
 |x::l=>by rw[U3,Jlm];rfl
theorem Jp2 {α:Type} {g:α→α→Int} (h:∀a b,g a b= -g b a):∀{l:List α},U3 (fun a=>U3 (g a) l) l=0
 |[]=>rfl
 | x :: l => by
  have e1:U3 (fun a=>U3 (g a) (x::l)) l=U3 (fun a=>g a x) l+U3 (fun a=>U3 (g a) l) l:=by
   rw[←Jp5];rfl
  have e2:U3 (fun a=>g a x) l= -U3 (g x) l:=by
   rw[←Ji9];exact Xn fun a _=>h a x
  have e3:=h x x
  rw[U3,e1,e2,Jp2 h,U3]
  omega
def Y8 (f:Int→Int):Int→Nat→Int
 |_,0=>0
 |a,n+1=>f a+Y8 f (a+1) n
theorem Zj {f g:Int→Int}:∀{n:Nat} {a:Int},(∀h,a≤h→h<a+n→f h=g h)→Y8 f a n=Y8 g a n
 |0,_,_=>rfl
 |n+1,a,h=>by
  rw[Y8,Y8,h a (Int.le_refl _) Oo,Zj fun k h1 h2=>h k Oo Oo]
theorem Ja3 {f:Int→Int} {n:Nat} {a:Int} (h:∀k,a≤k→k<a+n→f k=0):Y8 f a n=0:=by
 have e:∀(n:Nat) (a:Int),Y8 (fun _=>0) a n=0:=fun n=>by
  induction n with
  |zero=>intro a;rfl
  |succ n ih=>intro a;rw[Y8,ih];rfl
 rw[Zj h,e]
theorem H8 {f:Int→Int}:∀{m n:Nat} {a:Int},Y8 f a (m+n)=Y8 f a m+Y8 f (a+m) n
 |0,n,a=>by rw[Nat.zero_add,Y8,Int.natCast_zero,Int.add_zero,Int.zero_add]
 |m+1,n,a=>by
  rw[show m+1+n=(m+n)+1 by omega,Y8,Y8,H8,show a+((m+1:Nat):Int)=a+1+(m:Int) by omega];omega
theorem Jev {f:Int→Int} {n:Nat} {a:Int}:Y8 f a (n+1)=Y8 f a n+f (a+n):=by
 rw[H8]
 show _+(f (a+(n:Int))+0)=_
 omega
theorem Jp8 {f g:Int→Int}:∀{n:Nat} {a:Int},Y8 (fun h=>f h+g h) a n=Y8 f a n+Y8 g a n
 |0,_=>rfl
 |n+1,a=>by rw[Y8,Y8,Y8,Jp8];omega
theorem Jp6 {f g:Int→Int}:∀{n:Nat} {a:Int},Y8 (fun h=>f h-g h) a n=Y8 f a n-Y8 g a n
 |0,_=>rfl
 |n+1,a=>by rw[Y8,Y8,Y8,Jp6];omega
theorem Jp7 {f:Int→Int} {c:Int}:∀{n:Nat} {a:Int},Y8 (fun h=>f h*c) a n=Y8 f a n*c
 |0,_=>(Int.zero_mul c).symm
 |n+1,a=>by rw[Y8,Y8,Jp7,Int.add_mul]
theorem Jd2 {α:Type} {c:α→Int→Int} {n:Nat} {a:Int}:∀{l:List α},Y8 (fun h=>U3 (fun x=>c x h) l) a n=U3 (fun x=>Y8 (c x) a n) l
 |[]=>Ja3 fun _ _ _=>rfl
 |x::l=>by
  rw[U3,←Jd2,←Jp8];rfl
theorem Jeu {f:Int→Int} {a:Int} {n m:Nat} (ha:0≤a) (hf:∀h,¬(a≤h∧h<a+n)→f h=0):Y8 (fun h=>bif decide (h<(m:Int)) then f h else 0) a n=Y8 f 0 m:=by
 have cut:∀(k:Nat),m≤k→Y8 (fun h=>bif decide (h<(m:Int)) then f h else 0) 0 k=Y8 f 0 m:=fun k hk=>by
  rw[show k=m+(k-m) by omega,H8,Ja3 (n:=k-m),Int.add_zero]
  ·exact Zj fun h _ h2=>by rw[decide_eq_true Oo];rfl
  ·intro h h1 _;rw[decide_eq_false Oo];rfl
 have e2:Y8 (fun h=>bif decide (h<(m:Int)) then f h else 0) 0 (a.toNat+n+m)=Y8 (fun h=>bif decide (h<(m:Int)) then f h else 0) a n:=by
  have z:∀h,¬(a≤h∧h<a+n)→(bif decide (h<(m:Int)) then f h else 0)=0:=fun h q=>by
   rw[hf h q];cases decide (h<(m:Int))<;>rfl
  rw[H8,H8,Ja3 (n:=a.toNat),Ja3 (n:=m),Int.zero_add,Int.add_zero,Int.zero_add,show((a.toNat:Nat):Int)=a by omega]
  ·intro h h1 h2;exact z h (by push_cast at h1;omega)
  ·intro h h1 h2;exact z h Oo
 rw[←e2]
 exact cut _ Oo
def Kie (st:Int) (M:List Met) (x:Ord):Int:=(K6 st M x).2.2.2.2.1-(K6 st M x).2.2.2.2.2
def J91 (st:Int) (M:List Met) (a b:ByteArray) (x:Ord):Int:=(bif Hq x a b then Kie st M x else 0)-(bif Hq x b a then Kie st M x else 0)
theorem Jpq {st:Int} {M:List Met} {a b:ByteArray}:∀{l:List Ord} {n:Int},Jr4 st M a b l n=n+U3 (J91 st M a b) l
 |[],n=>by rw[Jr4,U3];omega
 | x :: l, n => by
  rw[Jr4,Jpq,U3]
  have:J7y st M a b x n=n+J91 st M a b x:=by
   unfold J7y J91 Kie
   cases Hq x a b<;>cases Hq x b a<;>simp only[cond_true,cond_false]<;>omega
  omega
theorem Jeg {st:Int} {O:List Ord} {M:List Met} (a b:ByteArray):Hj st O M a b= -Hj st O M b a:=by
 unfold Hj
 rw[Jpq,Jpq]
 have:U3 (J91 st M a b) O= -U3 (J91 st M b a) O:=by
  rw[←Ji9]
  exact Xn fun x _=>by unfold J91;omega
 omega
theorem Jye {st:Int} {O:List Ord} {M:List Met} {s:ByteArray}:∀{l:List Sta} {n:Int},Jt3 st O M s l n=n+U3 (fun y=>Hj st O M s y.1) l
 |[],n=>by rw[Jt3,U3];omega
 | y :: l, n => by
  rw[Jt3,Jye,U3]
  cases q:y.1.toList !=s.toList with
  |true=>simp only[cond_true];omega
  |false=>
   have e:y.1=s:=Vy (by simpa using q)
   have:=Jeg (st:=st) (O:=O) (M:=M) s s
   simp only[cond_false]
   rw[e];omega
theorem Jyb {st:Int} {S:List Sta} {O:List Ord} {M:List Met} {s:ByteArray}:Jm8 st S O M s=U3 (fun y=>Hj st O M s y.1) S:=by
 unfold Jm8;rw[Jye];omega
theorem J2e {st:Int} {S:List Sta} {O:List Ord} {M:List Met}:U3 (fun x=>Jm8 st S O M x.1) S=0:=by
 rw[Xn fun x _=>Jyb]
 exact Jp2 fun a b=>Jeg a.1 b.1
def cS (M:List Met) (x:Ord) (h:Int):Int:=bif Jh x h then(Dt M x.1 h).2.2.1 else 0
def cG (M:List Met) (x:Ord) (h:Int):Int:=bif Jh x h then(Dt M x.1 h).2.2.2 else 0
def cF (M:List Met) (x:Ord) (h:Int):Int:=bif Jh x h then 3*(x.2.2.2.2.1-(Dt M x.1 h).2.2.2) else 0
def cV (M:List Met) (x:Ord) (h:Int):Int:=cG M x h*x.2.2.2.2.2.1-cF M x h
theorem Jkd {M:List Met} {h:Int}:∀{l:List Ord} {a:H3},Jfy M h l a=(a.1+U3 (fun x=>cS M x h) l,a.2.1+U3 (fun x=>cG M x h) l,a.2.2+U3 (fun x=>cV M x h) l)
 |[],a=>by rw[Jfy,U3,U3,U3,Int.add_zero,Int.add_zero,Int.add_zero]
 |x::l,a=>by
  rw[Jfy,Jkd,U3,U3,U3]
  unfold J6d cV cS cG cF
  cases Jh x h with
  |true=>simp only[cond_true];refine Prod.ext ?_ (Prod.ext ?_ ?_)<;>dsimp only<;>omega
  |false=>simp only[cond_false];refine Prod.ext ?_ (Prod.ext ?_ ?_)<;>dsimp only<;>omega
theorem Jrs {st:Int} {M:List Met} {x:Ord}:∀{n:Nat} {h:Int} {a:Jng},(Jbv st M x h n a).2=(a.2.1+Y8 (fun k=>bif decide (k<st) then cS M x k else 0) h n,a.2.2.1+Y8 (fun k=>bif decide (k<st) then cG M x k else 0) h n,a.2.2.2+Y8 (fun k=>bif decide (k<st) then cF M x k else 0) h n)
 |0,h,a=>by rw[Jbv,Y8,Y8,Y8,Int.add_zero,Int.add_zero,Int.add_zero]
 |n+1,h,(c,s,g,f)=>by
  rw[Jbv,Jrs,Y8,Y8,Y8]
  unfold cS cG cF
  cases Jh x h<;>cases decide (h<st)<;>simp only[cond_true,cond_false,Bool.and_true,Bool.and_false]<;>(refine Prod.ext ?_ (Prod.ext ?_ ?_)<;>dsimp only<;>omega)
theorem Jgo {S:List Sta} {st:Int} {M:List Met} {x:Ord} (hx:Jcy S x) (h0:0≤st):(K6 st M x).2.2.1=Y8 (cS M x) 0 st.toNat∧(K6 st M x).2.2.2.1=Y8 (cG M x) 0 st.toNat∧Kie st M x=Y8 (cV M x) 0 st.toNat:=by
 have h1:=hx.span.lo
 have h2:=hx.span.mid
 have hout:∀h,¬(x.2.2.2.1.1≤h∧h<x.2.2.2.1.1+(Ua x:Int))→Jh x h=false:=fun h q=>by
  cases c:Jh x h with
  |false=>rfl
  |true=>
   have:=Jgl c
   exact absurd ⟨this.1,by unfold Ua;omega⟩ q
 have hst:((st.toNat:Nat):Int)=st:=by omega
 have e:=Jrs (st:=st) (M:=M) (x:=x) (n:=Ua x) (h:=x.2.2.2.1.1) (a:=(0,0,0,0))
 have s1:=Jeu (f:=cS M x) (n:=Ua x) (m:=st.toNat) h1 fun h q=>by unfold cS;rw[hout h q];rfl
 have s2:=Jeu (f:=cG M x) (n:=Ua x) (m:=st.toNat) h1 fun h q=>by unfold cG;rw[hout h q];rfl
 have s3:=Jeu (f:=cF M x) (n:=Ua x) (m:=st.toNat) h1 fun h q=>by unfold cF;rw[hout h q];rfl
 rw[hst] at s1 s2 s3
 rw[s1,s2,s3,Int.zero_add,Int.zero_add,Int.zero_add] at e
 have e:(Zi st M x).2=_:=e
 refine⟨?_, ?_, ?_⟩
 ·show(Zi st M x).2.1=_;rw[e]
 ·show(Zi st M x).2.2.1=_;rw[e]
 ·show(Zi st M x).2.2.1*x.2.2.2.2.2.1-(Zi st M x).2.2.2=_
  rw[e,←Jp7,←Jp6]
  rfl
theorem J1a {M:List Met} {n:ByteArray} {h:Int} (q:0≤Kw M n h):(Dt M n h).1=n:=by
 unfold Kw at q
 obtain⟨i,h1,h2⟩:=Jfx (d:=Jj0) q
 have e:Dt M n h=M.getD i Jj0:=by
  unfold Dt Kw
  rw[h1,Nat.zero_add];rfl
 rw[Hy,Bool.and_eq_true] at h2
 rw[e]
 exact Vy h2.1
theorem Jx9 {r:Reg} (hr:Jj r) (hI:J43 r) {x:Ord} (hx:x∈r.2.2.2.1):0≤(K6 r.2.1 r.2.2.2.2.1 x).2.2.2.2.2:=by
 have key:∀(n:Nat) (h:Int) (a:Jng),0≤a.2.2.2→0≤(Jbv r.2.1 r.2.2.2.2.1 x h n a).2.2.2:=by
  intro n
  induction n with
  |zero=>intro h a ha;exact ha
  | succ n ih =>
   intro h a ha
   obtain⟨c,s,g,f⟩:=a
   unfold Jbv
   refine ih _ _ ?_
   cases q:Jh x h&&decide (h<r.2.1) with
   |false=>exact ha
   |true=>
    rw[Bool.and_eq_true] at q
    have hm:=hr.done x hx h q.1 (of_decide_eq_true q.2)
    have hl:=D2 (l:=r.2.2.2.2.1) (s:=x.1) (h:=h)
    have hmem:Dt r.2.2.2.2.1 x.1 h∈r.2.2.2.2.1:=Je Oo
    have h1:=(hr.met _ hmem).got.2
    have h2:=(hI.pow _ hmem).2
    rw[J1a hm,J5a hI.uni hx] at h2
    have ha:0≤f:=ha
    show 0≤f+3*(x.2.2.2.2.1-(Dt r.2.2.2.2.1 x.1 h).2.2.2)
    omega
 exact key _ _ _ (Int.le_refl _)
theorem Ju7:∀{l:List Jdq} {s g:Int},Jp9 l (s,g)=(s+U3 (fun b=>b.2.2.1) l,g+U3 (fun b=>b.2.2.2.1) l)
 |[],s,g=>by rw[Jp9,U3,U3,Int.add_zero,Int.add_zero]
 |b::l,s,g=>by rw[Jp9,Ju7,U3,U3,Int.add_assoc,Int.add_assoc]
theorem Kco {num den:Int} (h1:0≤num) (h2:0<den):0<(Jqy num den).2∧(Jqy num den).2≤den∧(Jqy num den).1*den=num*(Jqy num den).2:=by
 have hg:0<Nat.gcd num.toNat den.toNat:=Nat.gcd_pos_of_pos_right _ Oo
 obtain⟨n',hn⟩:=Nat.gcd_dvd_left num.toNat den.toNat
 obtain⟨d',hd⟩:=Nat.gcd_dvd_right num.toNat den.toNat
 unfold Jqy
 dsimp only
 generalize Nat.gcd num.toNat den.toNat=g at*
 have en:num=(g:Int)*(n':Int):=by
  have:((num.toNat:Nat):Int)=num:=by omega
  rw[←this,hn];push_cast;rfl
 have ed:den=(g:Int)*(d':Int):=by
  have:((den.toNat:Nat):Int)=den:=by omega
  rw[←this,hd];push_cast;rfl
 have hg':(g:Int)≠0:=by omega
 rw[en,ed,Int.mul_tdiv_cancel_left _ hg',Int.mul_tdiv_cancel_left _ hg']
 have hd0:0<(d':Int):=by
  rcases Nat.eq_zero_or_pos d' with q|q
  ·subst q;rw[Nat.mul_zero] at hd;omega
  ·omega
 refine⟨hd0, ?_, ?_⟩
 ·have:=Int.mul_le_mul_of_nonneg_right (show(1:Int)≤(g:Int) by omega) (Int.le_of_lt hd0)
  rw[Int.one_mul] at this;exact this
 ·rw[←Int.mul_assoc,Int.mul_comm (n':Int) (g:Int)]
end Go.Proofs.YtcibbcfiemeoiaaGreatDoor

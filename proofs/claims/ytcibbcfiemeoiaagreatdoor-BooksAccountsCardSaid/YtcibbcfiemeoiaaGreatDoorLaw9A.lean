/- The law walked: part of the proof. -/
import Derived.Test.YtcibbcfiemeoiaaGreatDoorFC
set_option linter.unusedSimpArgs false
set_option linter.unusedVariables false
set_option maxRecDepth 20000
namespace Go.Proofs.YtcibbcfiemeoiaaGreatDoor
open Go.Sx
set_option maxHeartbeats 20000000
def Jyc (l:List Ev) (x:Sta):Int:=Jm8 (Jc l).2.1 (Jc l).2.2.1 (Jc l).2.2.2.1 (Jc l).2.2.2.2.1 x.1
def Jnj (l:List Ev) (x y:Sta):Int:=Hj (Jc l).2.1 (Jc l).2.2.2.1 (Jc l).2.2.2.2.1 x.1 y.1
def Uk (L:List Jdq):H3:=(U3 (fun b=>b.2.2.1) L,U3 (fun b=>b.2.2.2.1) L,U3 (fun b=>b.2.2.2.2.1-b.2.2.2.2.2) L)
def Y6 (l:List Ev) (n:Nat):H3:=(Y8 (fun h=>(Yc l h).1) 0 n,Y8 (fun h=>(Yc l h).2.1) 0 n,Y8 (fun h=>(Yc l h).2.2) 0 n)
theorem Jyz {l:List Ev} (h:J2t l 20=true):lOk l∧l.length≤20∧(Jd l).2.2=0:=by
 unfold J2t at h
 cases q:X0 l 20 with
 |false=>rw[q] at h;cases h
 |true=>
  rw[q,cond_true] at h
  obtain⟨h1,h2⟩:=Jlt Od q
  exact⟨h1,Oo,by simpa using h⟩
theorem J2b {l:List Ev} (h:(Jd l).2.2=0):K2 l=(Ky l,0):=by
 unfold K2
 rw[if_pos (by unfold opE;rw[if_pos h];rfl)]
theorem Jgq {l:List Ev}:(Ky l).length=(Jc l).2.2.2.1.length:=List.length_map ..
theorem Jox {l:List Ev} {h:Int} (h0:(Jd l).2.2=0) (h1:0≤h) (h2:h<(Jc l).2.1):Jbh l h=0∧Yc l h=Jfy (Jc l).2.2.2.2.1 h (Jc l).2.2.2.1 (0,0,0):=by
 have hr:=Ly (l:=l)
 have h3:=hr.st
 have h4:=hr.tk
 have e:Jbh l h=0:=by
  unfold Jbh opE
  rw[if_pos h0,U4.2 ⟨Oo,Oo⟩,decide_eq_false Oo]
  rfl
 refine⟨e, ?_⟩
 unfold Yc
 rw[if_pos e]
theorem J7d {a b:ByteArray}:(a.toList==b.toList)=(b.toList==a.toList):=by
 rw[Bool.eq_iff_iff,beq_iff_eq,beq_iff_eq];exact⟨Eq.symm,Eq.symm⟩
theorem Jp4 {α:Type} {f:α→Int}:∀{a b:List α},U3 f (a++b)=U3 f a+U3 f b
 |[],b=>by rw[List.nil_append,U3,Int.zero_add]
 |x::a,b=>by rw[List.cons_append,U3,U3,Jp4,Int.add_assoc]
theorem Dw {α:Type} {f:α→Int} {l:List α} {k:Nat} {d:α} (h:k<l.length):U3 f (l.take (k+1))=U3 f (l.take k)+f (l.getD k d):=by
 rw[←Ve (d:=d) h,Jp4]
 show _+(f (l.getD k d)+0)=_
 omega
theorem Jd3 {α β:Type} {f:β→Int} {g:α→β}:∀{l:List α},U3 f (l.map g)=U3 (fun x=>f (g x)) l
 |[]=>rfl
 |x::l=>by rw[List.map_cons,U3,U3,Jd3]
theorem Ju6 {α:Type} {f:α→Int} {A B:Int}:∀{l:List α},(∀x∈l,A≤f x∧f x≤B)→A*l.length≤U3 f l∧U3 f l≤B*l.length
 |[],_=>by rw[U3];simp
 |x::l,h=>by
  have h1:=h x (List.mem_cons_self ..)
  have h2:=Ju6 fun y hy=>h y (List.mem_cons_of_mem _ hy)
  rw[U3,List.length_cons]
  push_cast
  rw[Int.mul_add,Int.mul_add,Int.mul_one,Int.mul_one]
  omega
theorem Lx {α:Type} {f:α→Int} {B:Int} {n:Nat} {l:List α} (hB:0≤B) (hl:l.length≤n) (h:∀x∈l,-B≤f x∧f x≤B): -(B*n)≤U3 f l∧U3 f l≤B*n:=by
 obtain⟨h1,h2⟩:=Ju6 h
 have h3:B*(l.length:Int)≤B*(n:Int):=Int.mul_le_mul_of_nonneg_left Oo hB
 rw[Int.neg_mul] at h1
 omega
theorem Jja {f:Int→Int} {B:Int}:∀{n:Nat} {a:Int},(∀h,a≤h→h<a+n→-B≤f h∧f h≤B)→-(B*n)≤Y8 f a n∧Y8 f a n≤B*n
 |0,_,_=>by rw[Y8];simp
 |n+1,a,h=>by
  have h1:=h a (Int.le_refl _) Oo
  have h2:=Jja (B:=B) (n:=n) (a:=a+1) fun k p q=>h k Oo Oo
  rw[Y8]
  push_cast
  rw[Int.mul_add,Int.mul_one]
  omega
theorem Jr3 {l:List Ev} (hr:Jj (Jc l)) (x y:Sta): -3200000000≤Jnj l x y∧Jnj l x y≤3200000000:=Jkw (tk:=(Jc l).1) (S:=(Jc l).2.2.1) (X:=(Jc l).2.2.2.2.2.1) (Q:=(Jc l).2.2.2.2.2.2) hr
theorem Jy0 {l:List Ev} (hr:Jj (Jc l)) (x:Sta) (L:List Sta) (hL:L.length≤6): -19200000000≤U3 (Jnj l x) L∧U3 (Jnj l x) L≤19200000000:=by
 have:=Lx (f:=Jnj l x) (B:=3200000000) Od hL fun y _=>Jr3 hr x y
 omega
theorem Jru {l:List Ev} (hr:Jj (Jc l)) (x:Sta): -19200000000≤Jyc l x∧Jyc l x≤19200000000:=by
 have e:Jyc l x=U3 (Jnj l x) (Jc l).2.2.1:=Jyb
 rw[e]
 exact Jy0 hr x _ hr.nS
theorem J7e {l:List Ev} (hr:Jj (Jc l)) (L:List Sta) (hL:L.length≤6): -115200000000≤U3 (Jyc l) L∧U3 (Jyc l) L≤115200000000:=by
 have:=Lx (f:=Jyc l) (B:=19200000000) Od hL fun y _=>Jru hr y
 omega
theorem Jln {S:List Sta} {x:Sta} (hx:x∈S):0≤Jn S x.1:=by
 by_cases q:Jn S x.1<0
 ·have:=Jbf (p:=fun y:Sta=>y.1.toList==x.1.toList) (k:=0) q x hx
  rw[beq_self_eq_true] at this
  cases this
 ·omega
theorem Jke {l:List Ev} {x:Sta} (hx:x∈(Jc l).2.2.1):Vq (Jc l) 0 x.1=true:=by rw[Jdv];exact decide_eq_true (Jln hx)
theorem Kd7 {l:List Ev} {x:Sta} (h0:(Jd l).2.2=0) (hx:x∈(Jc l).2.2.1):Kd8 l x.1=0∧Jzw l x.1=Jyc l x:=by
 have e:opE l [x.1]=0:=by
  unfold opE
  rw[if_pos h0]
  simp only[List.map_cons,List.map_nil,Jke hx]
  rfl
 exact⟨e,by unfold Jzw;rw[if_pos e];rfl⟩
theorem J4f {l:List Ev} {x y:Sta} (h0:(Jd l).2.2=0) (hx:x∈(Jc l).2.2.1) (hy:y∈(Jc l).2.2.1) (h:(x.1.toList==y.1.toList)=false):Jcv l x.1 y.1=0∧Jkv l x.1 y.1=Jnj l x y:=by
 have e:Jcv l x.1 y.1=0:=by
  unfold Jcv opE
  rw[if_pos h0,h]
  simp only[List.map_cons,List.map_nil,Jke hx,Jke hy]
  rfl
 exact⟨e,by unfold Jkv;rw[if_pos e];rfl⟩
theorem J5j {l:List Ev} {x:Sta} {h:Int} (h0:(Jd l).2.2=0) (hI:J43 (Jc l)) (hx:x∈(Jc l).2.2.1) (h1:0≤h) (h2:(Jc l).1≤h) (h3:h≤999999999):Jba l x.1 h=0∧0≤Jl0 l x.1 h:=by
 have e:Jba l x.1 h=0:=by
  unfold Jba opE
  rw[if_pos h0,U4.2 ⟨h1,h3⟩]
  simp only[List.map_cons,List.map_nil,Jke hx]
  rfl
 exact⟨e,by unfold Jl0;rw[if_pos e];exact hI.room x.1 (Jln hx) h h2⟩
theorem Jt2 {L:List Jdq} {i:Nat} (h:i<L.length):Uk (L.take (i+1))=((Uk (L.take i)).1+(L.getD i (({data:={toList:=[]}}:ByteArray),0,0,0,0,0)).2.2.1,(Uk (L.take i)).2.1+(L.getD i (({data:={toList:=[]}}:ByteArray),0,0,0,0,0)).2.2.2.1,(Uk (L.take i)).2.2+((L.getD i (({data:={toList:=[]}}:ByteArray),0,0,0,0,0)).2.2.2.2.1-(L.getD i (({data:={toList:=[]}}:ByteArray),0,0,0,0,0)).2.2.2.2.2)):=by
 unfold Uk
 rw[Dw h,Dw h,Dw h]
theorem Jgp {l:List Ev} (hr:Jj (Jc l)) {b:Jdq} (hb:b∈Ky l):Jsm b:=by
 obtain⟨x,hx,rfl⟩:=List.mem_map.1 hb
 exact L9 (tk:=(Jc l).1) (S:=(Jc l).2.2.1) (X:=(Jc l).2.2.2.2.2.1) (Q:=(Jc l).2.2.2.2.2.2) hr hx
theorem Jn8 {α:Type} {f g:α→Int}:∀{l:List α},(∀x∈l,f x≤g x)→U3 f l≤U3 g l
 |[],_=>Int.le_refl _
 |x::l,h=>by
  have h1:=h x (List.mem_cons_self ..)
  have h2:=Jn8 fun y hy=>h y (List.mem_cons_of_mem _ hy)
  rw[U3,U3];omega
theorem Jkt {l:List Ev} (hr:Jj (Jc l)) (L:List Jdq) (hL:∀b∈L,b∈Ky l) (hn:L.length≤32):(0≤(Uk L).2.1∧(Uk L).2.1≤(Uk L).1)∧(Uk L).1≤1536000∧-1600000000≤(Uk L).2.2∧(Uk L).2.2≤1600000000:=by
 have a:=Lx (f:=fun b:Jdq=>b.2.2.1) (l:=L) (B:=48000) Od hn fun b hb=>by have:=(Jgp hr (hL b hb)).sent;omega
 have b:=Jn8 (f:=fun _:Jdq=>0) (g:=fun b:Jdq=>b.2.2.2.1) (l:=L) fun b hb=>(Jgp hr (hL b hb)).got.1
 have c:=Jn8 (f:=fun b:Jdq=>b.2.2.2.1) (g:=fun b:Jdq=>b.2.2.1) (l:=L) fun b hb=>(Jgp hr (hL b hb)).got.2
 have d:=Lx (f:=fun b:Jdq=>b.2.2.2.2.1-b.2.2.2.2.2) (l:=L) (B:=50000000) Od hn fun b hb=>by have:=(Jgp hr (hL b hb)).money;have:=(Jgp hr (hL b hb)).fine;omega
 rw[Jlm] at b
 unfold Uk
 dsimp only
 omega
theorem Jos {r:Reg} (hr:Jj r) (n:ByteArray) (h:Int):(0≤(Dt r.2.2.2.2.1 n h).2.2.1∧(Dt r.2.2.2.2.1 n h).2.2.1≤1000)∧0≤(Dt r.2.2.2.2.1 n h).2.2.2∧(Dt r.2.2.2.2.1 n h).2.2.2≤1000:=by
 have hl:=D2 (l:=r.2.2.2.2.1) (s:=n) (h:=h)
 unfold Dt
 by_cases q:(Kw r.2.2.2.2.1 n h).toNat<r.2.2.2.2.1.length
 ·have:=hr.met _ (Je (d:=Jj0) q)
  have h1:=this.sent
  have h2:=this.got
  omega
 ·rw[List.getD_eq_getElem?_getD,List.getElem?_eq_none Oo]
  exact⟨⟨Od,Od⟩,Od,Od⟩
theorem Jea {l:List Ev} {h:Int} (hr:Jj (Jc l)) (h0:(Jd l).2.2=0) (h1:0≤h) (h2:h<(Jc l).2.1):(-40000000≤(Yc l h).1∧(Yc l h).1≤40000000)∧(-40000000≤(Yc l h).2.1∧(Yc l h).2.1≤40000000)∧-40000000≤(Yc l h).2.2∧(Yc l h).2.2≤40000000:=by
 rw[(Jox h0 h1 h2).2,Jkd]
 have g:∀x:Ord,0≤cG (Jc l).2.2.2.2.1 x h∧cG (Jc l).2.2.2.2.1 x h≤1000:=fun x=>by
  unfold cG
  have:=Jos hr x.1 h
  cases Jh x h<;>simp only[cond_true,cond_false]<;>omega
 have a:=Lx (f:=fun x=>cS (Jc l).2.2.2.2.1 x h) (l:=(Jc l).2.2.2.1) (B:=1000) Od hr.nO fun x _=>by
  unfold cS
  have:=Jos hr x.1 h
  cases Jh x h<;>simp only[cond_true,cond_false]<;>omega
 have b:=Lx (f:=fun x=>cG (Jc l).2.2.2.2.1 x h) (l:=(Jc l).2.2.2.1) (B:=1000) Od hr.nO fun x _=>by have:=g x;omega
 have c:=Lx (f:=fun x=>cV (Jc l).2.2.2.2.1 x h) (l:=(Jc l).2.2.2.1) (B:=1010000) Od hr.nO fun x hx=>by
  have o:=hr.ord x hx
  have o1:=o.pow
  have o2:=o.pri
  have f: -3000≤cF (Jc l).2.2.2.2.1 x h∧cF (Jc l).2.2.2.2.1 x h≤3000:=by
   unfold cF
   have:=Jos hr x.1 h
   cases Jh x h<;>simp only[cond_true,cond_false]<;>omega
  have p1:0≤cG (Jc l).2.2.2.2.1 x h*x.2.2.2.2.2.1:=Int.mul_nonneg (g x).1 o2.1
  have p2:cG (Jc l).2.2.2.2.1 x h*x.2.2.2.2.2.1≤1000*1000:=Int.mul_le_mul (g x).2 o2.2 o2.1 Od
  unfold cV
  omega
 dsimp only
 omega
theorem Jtr {l:List Ev} {n:Nat}:Y6 l (n+1)=((Y6 l n).1+(Yc l n).1,(Y6 l n).2.1+(Yc l n).2.1,(Y6 l n).2.2+(Yc l n).2.2):=by
 unfold Y6
 rw[Jev,Jev,Jev,Int.zero_add]
theorem J1l {l:List Ev} (hr:Jj (Jc l)) (h0:(Jd l).2.2=0) (n:Nat) (hn:n≤60) (h:(n:Int)≤(Jc l).2.1):(-2400000000≤(Y6 l n).1∧(Y6 l n).1≤2400000000)∧(-2400000000≤(Y6 l n).2.1∧(Y6 l n).2.1≤2400000000)∧-2400000000≤(Y6 l n).2.2∧(Y6 l n).2.2≤2400000000:=by
 have a:=Jja (f:=fun h=>(Yc l h).1) (B:=40000000) (n:=n) (a:=0) fun k p q=>(Jea hr h0 p Oo).1
 have b:=Jja (f:=fun h=>(Yc l h).2.1) (B:=40000000) (n:=n) (a:=0) fun k p q=>(Jea hr h0 p Oo).2.1
 have c:=Jja (f:=fun h=>(Yc l h).2.2) (B:=40000000) (n:=n) (a:=0) fun k p q=>(Jea hr h0 p Oo).2.2
 unfold Y6
 dsimp only
 omega
theorem Jpf {l:List Ev} (hr:Jj (Jc l)) (h0:(Jd l).2.2=0):Uk (Ky l)=Y6 l (Jc l).2.1.toNat:=by
 have h1:=hr.st.1
 have e:∀k:Int,0≤k→k<0+((Jc l).2.1.toNat:Int)→Yc l k=(U3 (fun x=>cS (Jc l).2.2.2.2.1 x k) (Jc l).2.2.2.1,U3 (fun x=>cG (Jc l).2.2.2.2.1 x k) (Jc l).2.2.2.1,U3 (fun x=>cV (Jc l).2.2.2.2.1 x k) (Jc l).2.2.2.1):=fun k p q=>by
  rw[(Jox h0 p Oo).2,Jkd,Int.zero_add,Int.zero_add,Int.zero_add]
 unfold Uk Y6 Ky
 rw[Jd3,Jd3,Jd3,Zj (g:=fun h=>U3 (fun x=>cS (Jc l).2.2.2.2.1 x h) (Jc l).2.2.2.1) fun k p q=>by rw[e k p q],Zj (f:=fun h=>(Yc l h).2.1) (g:=fun h=>U3 (fun x=>cG (Jc l).2.2.2.2.1 x h) (Jc l).2.2.2.1) fun k p q=>by rw[e k p q],Zj (f:=fun h=>(Yc l h).2.2) (g:=fun h=>U3 (fun x=>cV (Jc l).2.2.2.2.1 x h) (Jc l).2.2.2.1) fun k p q=>by rw[e k p q],Jd2,Jd2,Jd2]
 refine Prod.ext ?_ (Prod.ext ?_ ?_)
 ·exact Xn fun x hx=>(Jgo (hr.ord x hx) h1).1
 ·exact Xn fun x hx=>(Jgo (hr.ord x hx) h1).2.1
 ·exact Xn fun x hx=>(Jgo (hr.ord x hx) h1).2.2
theorem Jwk {l:List Ev} (h0:(Jd l).2.2=0):Yl l=if(Uk (Ky l)).1=0 then((0,0),6) else(Jqy ((Uk (Ky l)).1-(Uk (Ky l)).2.1) (Uk (Ky l)).1,0):=by
 unfold Yl
 rw[if_pos (by unfold opE;rw[if_pos h0];rfl)]
 unfold J53
 rw[Ju7,Int.zero_add,Int.zero_add]
 rfl
theorem J52 {l:List Ev} (h0:(Jd l).2.2=0) (z:(Uk (Ky l)).1=0):Yl l=((0,0),6):=by rw[Jwk h0,if_pos z]
theorem J1c {l:List Ev} (hr:Jj (Jc l)) (h0:(Jd l).2.2=0) (z:(Uk (Ky l)).1≠0):(Yl l).2=0∧0<(Yl l).1.2∧(Yl l).1.2≤(Uk (Ky l)).1∧(Yl l).1.1*(Uk (Ky l)).1=((Uk (Ky l)).1-(Uk (Ky l)).2.1)*(Yl l).1.2∧True:=by
 have b:=Jkt hr (Ky l) (fun b hb=>hb) (by rw[Jgq];exact hr.nO)
 obtain⟨a1,a2,a3⟩:=Kco (num:=(Uk (Ky l)).1-(Uk (Ky l)).2.1) (den:=(Uk (Ky l)).1) Oo Oo
 rw[Jwk h0,if_neg z]
 exact⟨rfl,a1,a2,a3,trivial⟩
def Ks0:Con:={args:=[.val false (.list 67 sEv)],ress:=[Bo],owns:=[],pre:=fun _=>[],spec:=fun _=>(true,())}
abbrev rs9 (l:List Ev):List (Nat×Res):=(0, .imm 67 sEv l)::imR (Jc l) 1++[(6,bxR (Jc l) 1),(7, .imm 129 Jod (K2 l).1)]
abbrev sl9 (l:List Ev) (k:Nat) (a:Int):List (Nat×SV):=[(0, .one (.sl 0)),(3, .one (.ptr 6 0)),(6, .one (.sl 7)),(8, .one (.int .i64 a)),(84, .one (.sl 1)),(85, .one (.int .i64 (Jc l).2.2.1.length)),(86, .one (.int .i64 k))]
abbrev Ktm (l:List Ev):Ann:={X:=Nat×Int,σ:=fun(k,a)=>⟨8,sl9 l k a,rs9 l⟩,inv:=fun(k,a)=>k≤(Jc l).2.2.1.length∧a=U3 (Jyc l) ((Jc l).2.2.1.take k),mu:=fun(k,_)=>(Jc l).2.2.1.length-k}
abbrev bxS (l:List Ev) (k:Nat):Res:= .box 127 [.str ((Jc l).2.2.1.getD k X4).1, .int .i64 ((Jc l).2.2.1.getD k X4).2.1, .int .i64 ((Jc l).2.2.1.getD k X4).2.2]
abbrev Ktk (l:List Ev):Ann:={X:=Nat×Int×Nat×Int,σ:=fun(k,a,j,s)=>⟨9,sl9 l k a++[(10, .one (.ptr 8 0)),(11, .one (.int .i64 (Jzw l ((Jc l).2.2.1.getD k X4).1))),(13, .one (.int .i64 s)),(100, .one (.sl 1)),(101, .one (.int .i64 (Jc l).2.2.1.length)),(102, .one (.int .i64 j))],rs9 l++[(8,bxS l k)]⟩,inv:=fun(k,a,j,s)=>j≤(Jc l).2.2.1.length∧s=U3 (Jnj l ((Jc l).2.2.1.getD k X4)) ((Jc l).2.2.1.take j),mu:=fun(_,_,j,_)=>(Jc l).2.2.1.length-j,rel:=some fun x y=>x.1=y.1∧x.2.1=y.2.1}
abbrev Ktj (l:List Ev):Ann:={X:=Nat×Int×Nat,σ:=fun(k,a,j)=>⟨9,sl9 l k a++[(10, .one (.ptr 8 0)),(151, .one (.int .i64 j))],rs9 l++[(8,bxS l k)]⟩,inv:=fun(_,_,j)=>j≤60,mu:=fun(_,_,j)=>60-j,rel:=some fun x y=>x.1=y.1∧x.2.1=y.2.1}
abbrev bx3 (a:H3):Res:= .box 25 [.int .i64 a.1, .int .i64 a.2.1, .int .i64 a.2.2]
abbrev Kti (l:List Ev):Ann:={X:=Nat,σ:=fun k=>⟨10,[(0, .one (.sl 0)),(3, .one (.ptr 6 0)),(6, .one (.sl 7)),(8, .one (.int .i64 0)),(23, .one (.ptr 8 0)),(24, .one (.ptr 9 0)),(180, .one (.sl 7)),(181, .one (.int .i64 (K2 l).1.length)),(182, .one (.int .i64 k))],rs9 l++[(8,bx3 (Uk ((K2 l).1.take k))),(9,bx3 (0,0,0))]⟩,inv:=fun k=>k≤(K2 l).1.length,mu:=fun k=>(K2 l).1.length-k}
abbrev Kth (l:List Ev):Ann:={X:=Nat,σ:=fun k=>⟨10,[(0, .one (.sl 0)),(8, .one (.int .i64 0)),(23, .one (.ptr 8 0)),(24, .one (.ptr 9 0)),(231, .one (.int .i64 (Jc l).2.1)),(232, .one (.int .i64 k))],rs9 l++[(8,bx3 (Uk (K2 l).1)),(9,bx3 (Y6 l k))]⟩,inv:=fun k=>k≤(Jc l).2.1.toNat,mu:=fun k=>(Jc l).2.1.toNat-k}
abbrev K75 (l:List Ev):Nat→Option Ann:=fun id=>if id=0 then some (Ktm l) else if id=2 then some (Ktk l) else if id=4 then some (Ktj l) else if id=6 then some (Kti l) else if id=8 then some (Kth l) else if id=10 then some {X:=Unit,σ:=fun _=>⟨0,[],[]⟩,inv:=fun _=>True,mu:=fun _=>0,un:=4} else if id=1004244∨id=1003244∨id=1002244∨id=1001244 then some J6m else none
def Z7 (a:List Ev):=Ln (K2 a).1
def Z11 (a:List Ev):=Ln (Jc a).2.2.1
def Z12 (a:List Ev):=(Uk (K2 a).1).2.1
def Z43 (a:List Ev):=List.length (K2 a).1
def Z54 (a:List Ev):=List.length (Jc a).2.2.1
def Z70 (a:List Ev):=(K2 a).1=(K2 a).1
def Jy7 (a:List Ev) (b:Nat×Int×Nat×Int):=(List.getD (Jc a).2.2.1 b.1 X4).1
def Kh2 (a:Nat) (b:List Ev):=(Uk (List.take a (K2 b).1)).1
def J8r (a:List Ev) (b:Nat×Int×Nat):=(List.getD (Jc a).2.2.1 b.1 X4).2
def Kbw (a:List Ev) (b:Nat×Int×Nat):=(List.getD (Jc a).2.2.1 b.1 X4).1
def Kh0 (a:List Ev) (b:Nat×Int×Nat×Int):=(List.getD (Jc a).2.2.1 b.1 X4).2.1
def Khz (a:Nat) (b:List Ev):=(Uk (List.take a (K2 b).1)).2.1
def Khy (a:List Ev) (b:Nat×Int×Nat×Int):=(List.getD (Jc a).2.2.1 b.1 X4).2.2
def Khx (a:Nat) (b:List Ev):=(Uk (List.take a (K2 b).1)).2.2
def J8o (a:List Ev) (b:Nat×Int×Nat×Int):=Jzw a (Jy7 a b)
def Kno (a:List Ev) (b:Nat×Int):=List.getD (Jc a).2.2.1 b.1 Z14
def Knm (a:List Ev) (b:Nat×Int):=(Kno a b).1
def Ka7 (a:List Ev) (b:Nat×Int×Nat×Int):=(List.getD (Jc a).2.2.1 b.2.2.1 Z14).1
def K2x (a:List Ev):=((Uk (K2 a).1).1-Z12 a)*(Yl a).1.2
def K10 (a:List Ev) (b c:Nat×Int×Nat×Int):=J8o a b=J8o a c
def Klu (a:Nat×Int) (b:List Ev):=a.1≤Z54 b∧a.2=U3 (Jyc b) (List.take a.1 (Jc b).2.2.1)
def K1j (a:List Ev) (b:Nat×Int×Nat×Int):=Jkv a (Jy7 a b) (Ka7 a b)
def Kz4 (a:Nat×Int×Nat×Int) (b:List Ev):=a.2.2.2+K1j b a
def Kzu (a:List Ev) (b:Nat×Int×Nat×Int):=0-Jkv a (Ka7 a b) (Jy7 a b)
def Ky3 (a:List Ev):=bif bif (Yl a).2==0 then decide (0<(Yl a).1.2) else false then decide ((Yl a).1.2≤(Uk (K2 a).1).1) else false
def Ky2 (a:List Ev) (b:Nat):=List.getD (K2 a).1 b Knn
def Ky0 (a:Nat×Int×Nat×Int) (b:List Ev):=a.2.2.1≤Z54 b∧a.2.2.2=U3 (Jnj b (List.getD (Jc b).2.2.1 a.1 X4)) (List.take a.2.2.1 (Jc b).2.2.1)
def Kyw (a:List Ev) (b:Nat):=(Ky2 a b).2.2
def Kyu (a:List Ev) (b:Nat):=(Kyw a b).2
def Kys (a:List Ev) (b:Nat):=(Kyw a b).1
def Kj4 (a:List Ev):=Ky3 a=true
def Kyr (a:List Ev) (b:Nat):=(Kyu a b).2
def Kyq (a:List Ev) (b:Nat):=(Kyu a b).1
def Kyp (a:List Ev) (b:Nat):=(Kyr a b).2
def Kxn (a:Nat×Int×Nat×Int) (b:List Ev) (c:Nat×Int×Nat×Int):=Ky0 a b∧c.1=a.1∧c.2.1=a.2.1
def Kxg (a:Nat) (b:List Ev):=Kh2 a b+Kys b a
def Kxd (a:Nat) (b:List Ev):=Khz a b+Kyq b a
def Kwl (a:Nat×Int×Nat×Int) (b:List Ev) (c d:Nat×Int×Nat×Int):=Kxn a b c∧Z54 b-a.2.2.1<Z54 b-d.2.2.1
def Kwd (a:List Ev) (b:Nat):=(Kyr a b).1-Kyp a b
def Kvx (a:List Ev) (b:Nat×Int×Nat×Int):=bif Jcv a (Jy7 a b) (Ka7 a b) !=0 then true else Jcv a (Ka7 a b) (Jy7 a b) !=0
def Kvw (a:Nat) (b:List Ev):=Khx a b+Kwd b a
def Ku2 (a:List Ev) (b c:Nat×Int×Nat×Int):=Si (Z11 a) (Nc b.2.2.1+1=Nc c.2.2.1∧Sf a (Jnp a∧Jno a∧Jnn a∧Jnm a∧Jnl a∧Si (Jc a).1 (Si (Jc a).2.1 (Z70 a∧Jy7 a b=Jy7 a c∧Kh0 a b=Kh0 a c∧Khy a b=Khy a c))))
theorem ok9:Ok Tryz.prog 9 Ks0:=Jzr K79 Tryz.f9 (U5 (l:=([]:List (Nat×Func))) (by simp)) (fun xx=>K75 xx.1) (fun xx=>fun _=>na ()) fun xx=>by
 obtain⟨(l:List Ev),_⟩:=xx
 refine(by kernel_rfl:((20:Int)≤1000∧Br (!J2t l 20) (Tw (true=true)) (T2 (lOk l) (Br (bif bif bif bif bif (Jd l).2.2 !=0 then true else(K2 l).2 !=0 then true else Z7 l !=Z27 l then true else decide (6<Z11 l) then true else decide (20<Z27 l) then true else decide ((Jc l).2.1<0)) Z78 (Br (decide (60<(Jc l).2.1)) (Tw (true=true)) (∃(x:Nat×Int),(0=x.2∧Z11 l=Z11 l∧0=Nc x.1∧Sf l (Jnp l∧Jno l∧Jnn l∧Jnm l∧Jnl l∧(Jc l).1=(Jc l).1∧(Jc l).2.1=(Jc l).2.1∧Z70 l))∧Klu x l∧∀(x:Nat×Int),Klu x l→Br (decide (Nc x.1<Z11 l)) (Tw (Bd (Nc x.1) (Z11 l))∧lOk l∧Br (Kd8 l (Knm l x) !=0) Z78 (∃(x0:Nat×Int×Nat×Int),(x.2=x0.2.1∧Si (Z11 l) (Nc x.1=Nc x0.1∧Jzw l (Knm l x)=J8o l x0∧0=x0.2.2.2∧Si (Z11 l) (0=Nc x0.2.2.1∧Sf l (Jnp l∧Jno l∧Jnn l∧Jnm l∧Jnl l∧Si (Jc l).1 (Si (Jc l).2.1 (Z70 l∧Knm l x=Jy7 l x0∧(Kno l x).2.1=Kh0 l x0∧(Kno l x).2.2=Khy l x0))))))∧(Ky0 x0 l∧Sf x0.1 (x0.2.1=x0.2.1))∧∀(x_1:Nat×Int×Nat×Int),Kxn x_1 l x0→Br (decide (Nc x_1.2.2.1<Z11 l)) (Tw (Bd (Nc x_1.2.2.1) (Z11 l))∧Br (Lb (Jy7 l x_1) (Ka7 l x_1)) (Iw (Nc x_1.2.2.1+1)∧∃(y:Nat×Int×Nat×Int),(x_1.2.1=y.2.1∧Si (Z11 l) (Nc x_1.1=Nc y.1∧K10 l x_1 y∧x_1.2.2.2=y.2.2.2∧Ku2 l x_1 y))∧Kwl y l x0 x_1) (T2 (lOk l) ((Kvx l x_1=false→Iw (Kzu l x_1))∧Br (bif Kvx l x_1 then true else K1j l x_1 !=Kzu l x_1) Z78 (Iw (Kz4 x_1 l)∧Iw (Nc x_1.2.2.1+1)∧∃(y:Nat×Int×Nat×Int),(x_1.2.1=y.2.1∧Si (Z11 l) (Nc x_1.1=Nc y.1∧K10 l x_1 y∧Kz4 x_1 l=y.2.2.2∧Ku2 l x_1 y))∧Kwl y l x0 x_1)))) (Br (J8o l x_1 !=x_1.2.2.2) Z78 (Iw (x_1.2.1+J8o l x_1)∧∃(x0:Nat×Int×Nat),(x_1.2.1+J8o l x_1=x0.2.1∧Si (Z11 l) (Nc x_1.1=Nc x0.1∧0=Nc x0.2.2∧Sf l (Jnp l∧Jno l∧Jnn l∧Jnm l∧Jnl l∧Si (Jc l).1 (Si (Jc l).2.1 (Z70 l∧Jy7 l x_1=Kbw l x0∧Kh0 l x_1=(J8r l x0).1∧Khy l x_1=(J8r l x0).2)))))∧(x0.2.2≤60∧Sf x0.1 (x0.2.1=x0.2.1))∧∀(x_2:Nat×Int×Nat),x_2.2.2≤60∧x0.1=x_2.1∧x0.2.1=x_2.2.1→Br (decide (Nc x_2.2.2<60)) ((Iw ((Jc l).1+Nc x_2.2.2)∧lOk l)∧Iw ((Jc l).1+Nc x_2.2.2)∧Br (bif decide ((Jc l).1+Nc x_2.2.2≤999999999) then bif Jba l (Kbw l x_2) ((Jc l).1+Nc x_2.2.2) !=0 then true else decide (Jl0 l (Kbw l x_2) ((Jc l).1+Nc x_2.2.2)<0) else false) Z78 (Iw (Nc x_2.2.2+1)∧∃(y:Nat×Int×Nat),(x_2.2.1=y.2.1∧Si (Z11 l) (Nc x_2.1=Nc y.1∧Nc x_2.2.2+1=Nc y.2.2∧Sf l (Jnp l∧Jno l∧Jnn l∧Jnm l∧Jnl l∧Si (Jc l).1 (Si (Jc l).2.1 (Z70 l∧Kbw l x_2=Kbw l y∧(J8r l x_2).1=(J8r l y).1∧(J8r l x_2).2=(J8r l y).2)))))∧(y.2.2≤60∧x0.1=y.1∧x0.2.1=y.2.1)∧60-y.2.2<60-x_2.2.2)) (Iw (Nc x_2.1+1)∧∃(y:Nat×Int),(x_2.2.1=y.2∧Si (Z11 l) (Nc x_2.1+1=Nc y.1∧Sf l (Jnp l∧Jno l∧Jnn l∧Jnm l∧Jnl l∧Si (Jc l).1 (Si (Jc l).2.1 (Z70 l)))))∧Klu y l∧Z54 l-y.1<Z54 l-x.1))))) (∃(x_1:Nat),(x.2=0∧Si (Z7 l) (0=Nc x_1∧Sf l (Jnp l∧Jno l∧Jnn l∧Jnm l∧Jnl l∧Si (Jc l).1 (Si (Jc l).2.1 (Z70 l∧0=Kh2 x_1 l∧0=Khz x_1 l∧0=Khx x_1 l∧Kbv)))))∧x_1≤Z43 l∧∀(x:Nat),x≤Z43 l→Br (decide (Nc x<Z7 l)) (Tw (Bd (Nc x) (Z7 l))∧Tw (Bd (Nc x) (Z27 l))∧Br (bif bif !Lb (Ky2 l x).1 (List.getD (Jc l).2.2.2.1 x Jen).1 then true else decide (Kys l x<Kyq l x) then true else decide (Kyp l x<0)) Z78 (Iw (Kxg x l)∧Iw (Kxd x l)∧(Iw (Kwd l x)∧Iw (Kvw x l))∧Z17 x∧∃(y:Nat),Si 0 (Si (Z7 l) (Z96 x y∧Sf l (Jnp l∧Jno l∧Jnn l∧Jnm l∧Jnl l∧Si (Jc l).1 (Si (Jc l).2.1 (Z70 l∧Kxg x l=Kh2 y l∧Kxd x l=Khz y l∧Kvw x l=Khx y l∧Kbv)))))∧y≤Z43 l∧Z43 l-y<Z43 l-x)) (∃(x_2:Nat),Si 0 (Si (Jc l).2.1 (0=Nc x_2∧Sf l (Jnp l∧Jno l∧Jnn l∧Jnm l∧Jnl l∧Si (Jc l).1 (Si (Jc l).2.1 (Z70 l∧Kh2 x l=(Uk (K2 l).1).1∧Khz x l=Z12 l∧Khx x l=(Uk (K2 l).1).2.2∧0=(Y6 l x_2).1∧0=(Y6 l x_2).2.1∧0=(Y6 l x_2).2.2)))))∧x_2≤Int.toNat (Jc l).2.1∧∀(x:Nat),x≤Int.toNat (Jc l).2.1→Br (decide (Nc x<(Jc l).2.1)) (lOk l∧Br (Jbh l (Nc x) !=0) Z78 (Iw ((Y6 l x).1+(Yc l (Nc x)).1)∧Z33∧Iw ((Y6 l x).2.1+(Yc l (Nc x)).2.1)∧Jep∧Iw ((Y6 l x).2.2+(Yc l (Nc x)).2.2)∧Jz4∧Z17 x∧∃(y:Nat),Si 0 (Si (Jc l).2.1 (Z96 x y∧Sf l (Jnp l∧Jno l∧Jnn l∧Jnm l∧Jnl l∧Si (Jc l).1 (Si (Jc l).2.1 (Z70 l∧Si (Uk (K2 l).1).1 (Si (Z12 l) (Si (Uk (K2 l).1).2.2 ((Y6 l x).1+(Yc l (Nc x)).1=(Y6 l y).1∧(Y6 l x).2.1+(Yc l (Nc x)).2.1=(Y6 l y).2.1∧(Y6 l x).2.2+(Yc l (Nc x)).2.2=(Y6 l y).2.2))))))))∧y≤Int.toNat (Jc l).2.1∧Int.toNat (Jc l).2.1-y<Int.toNat (Jc l).2.1-x)) (Br (bif false then true else !((Uk (K2 l).1).1==(Y6 l x).1&&(Z12 l==(Y6 l x).2.1&&((Uk (K2 l).1).2.2==(Y6 l x).2.2&&true)))) Z78 (lOk l∧Br ((Uk (K2 l).1).1==0) (Sf true ((bif (Yl l).2==6 then true else false)=true)) (((Kj4 l→Iw ((Yl l).1.1*(Uk (K2 l).1).1))∧(Kj4 l→Iw ((Uk (K2 l).1).1-Z12 l))∧(Kj4 l→Iw (K2x l)))∧Sf true ((bif bif Ky3 l then(Yl l).1.1*(Uk (K2 l).1).1==K2x l else false then true else false)=true)))))))))))=_).mp ?_
 delta Z7 Z11 Z12 Z14 Z17 Z27 Z30 Z33 Z43 Z54 Z70 Z71 Z78 Z96 Jnq Jnp Jno Jy7 Kh2 J8r Kbw Jep Kh0 Khz Khy Khx Jnn Kbv Jnm Jnl J4v J8o Jz4 Kno Knn Knm Ka7 Jen K2x K10 Klu K1j Kz4 Kzu Ky3 Ky2 Ky0 Kyw Kyu Kys Kj4 Kyr Kyq Kyp Kxn Kxg Kxd Kwl Kwd Kvx Kvw Ku2 Br Iw Bd T2 Tw Sf Si Ln Nc B0 Lb
 refine⟨Od,fun _=>⟨rfl,rfl⟩,fun h=> ?_⟩
 have hb:J2t l 20=true:=by simpa using h
 obtain⟨hl,hlen,h0⟩:=Jyz hb
 have hbl:=J2b h0
 have hr:=Ly (l:=l)
 have hI:=J1j (l:=l)
 have nS:=hr.nS
 have nO:=J5t h0 Om
 have st1:=hr.st
 have st2:=hr.tk
 have hsa:(({data:={toList:=[]}}:ByteArray),(0:Int),(0:Int))=X4:=rfl
 have hor:(({data:={toList:=[]}}:ByteArray),({data:={toList:=[]}}:ByteArray),({data:={toList:=[]}}:ByteArray),((0:Int),(0:Int)),(0:Int),(0:Int),(0:Int))=Kb:=rfl
 simp only[hsa,hor]
 refine⟨hl,hl,fun h=> ?_,fun _=>⟨fun _=>by simp,fun h60=> ?_⟩⟩
 ·rw[h0,hbl,decide_eq_false (show ¬(6:Int)<((Jc l).2.2.1.length:Int) by(first|omega|dsimp only;omega)),decide_eq_false (show ¬(20:Int)<((Jc l).2.2.2.1.length:Int) by(first|omega|dsimp only;omega)),decide_eq_false (show ¬(Jc l).2.1<0 by(first|omega|dsimp only;omega))] at h
  simp[Jgq] at h
 have h60:=of_decide_eq_false h60
 refine⟨((0:Nat),(0:Int)),Oe,⟨Nat.zero_le _,rfl⟩,fun(x:Nat×Int) hx=>⟨fun h1=> ?_,fun h1=> ?_⟩⟩
 ·obtain⟨k,a⟩:=x
  obtain⟨k1,k2⟩:=hx
  dsimp only at k1 k2
  have hk:k<(Jc l).2.2.1.length:=by simpa using h1
  have hmk:=Je (d:=X4) hk
  obtain⟨b1,b2⟩:=Kd7 h0 hmk
  have ba:=J7e hr ((Jc l).2.2.1.take k) (by rw[List.length_take];omega)
  have bk:=Jru hr ((Jc l).2.2.1.getD k X4)
  rw[←k2] at ba
  refine⟨Oe,hl,fun h=>absurd h (by rw[b1];simp),fun _=>⟨(k,a,(0:Nat),(0:Int)),Oe,⟨⟨Nat.zero_le _,rfl⟩,by trivial⟩,fun(y:Nat×Int×Nat×Int) hy=>⟨fun h2=> ?_,fun h2=> ?_⟩⟩⟩
  ·obtain⟨k',a',j,s⟩:=y
   obtain⟨⟨j1,j2⟩,j3,j4⟩:=hy
   have j3:k=k':=j3
   have j4:a=a':=j4
   subst j3;subst j4
   dsimp only at j1 j2
   have hj:j<(Jc l).2.2.1.length:=by simpa using h2
   have hmj:=Je (d:=X4) hj
   have e:=Dw (f:=Jnj l ((Jc l).2.2.1.getD k X4)) (d:=X4) hj
   have bs:=Jy0 hr ((Jc l).2.2.1.getD k X4) ((Jc l).2.2.1.take j) (by rw[List.length_take];omega)
   have bj:=Jr3 hr ((Jc l).2.2.1.getD k X4) ((Jc l).2.2.1.getD j X4)
   rw[←j2] at bs e
   refine⟨Oe,fun h3=> ?_,fun h3=> ?_⟩
   ·have e1:((Jc l).2.2.1.getD k X4).1=((Jc l).2.2.1.getD j X4).1:=Vy h3
    have z:=Jeg (st:=(Jc l).2.1) (O:=(Jc l).2.2.2.1) (M:=(Jc l).2.2.2.2.1) ((Jc l).2.2.1.getD k X4).1 ((Jc l).2.2.1.getD k X4).1
    have z2:Jnj l ((Jc l).2.2.1.getD k X4) ((Jc l).2.2.1.getD j X4)=0:=by
     unfold Jnj;rw[←e1];omega
    exact⟨Oe,(k,a,j+1,s),Oe,⟨⟨hj,by show s=U3 (Jnj l ((Jc l).2.2.1.getD k X4)) ((Jc l).2.2.1.take (j+1));rw[e,z2,Int.add_zero]⟩,rfl,rfl⟩,by show(Jc l).2.2.1.length-(j+1)<(Jc l).2.2.1.length-j;omega⟩
   ·obtain⟨c1,c2⟩:=J4f h0 hmk hmj h3
    obtain⟨d1,d2⟩:=J4f h0 hmj hmk (by rw[J7d];exact h3)
    have d3:Jnj l ((Jc l).2.2.1.getD j X4) ((Jc l).2.2.1.getD k X4)= -Jnj l ((Jc l).2.2.1.getD k X4) ((Jc l).2.2.1.getD j X4):=Jeg _ _
    rw[c1,c2,d1,d2,d3]
    refine⟨hl,hl,fun _=>Om,fun h=> ?_,fun _=>⟨Om,Oe,(k,a,j+1,s+Jnj l ((Jc l).2.2.1.getD k X4) ((Jc l).2.2.1.getD j X4)),Oe,⟨⟨hj,e.symm⟩,rfl,rfl⟩,by show(Jc l).2.2.1.length-(j+1)<(Jc l).2.2.1.length-j;omega⟩⟩
    simp at h
  ·obtain⟨k',a',j,s⟩:=y
   obtain⟨⟨j1,j2⟩,j3,j4⟩:=hy
   have j3:k=k':=j3
   have j4:a=a':=j4
   subst j3;subst j4
   dsimp only at j1 j2 h2
   have hj:¬j<(Jc l).2.2.1.length:=by simpa using h2
   rw[List.take_of_length_le Om] at j2
   have e:Jyc l ((Jc l).2.2.1.getD k X4)=s:=by rw[j2];exact Jyb
   rw[b2,e]
   rw[e] at bk
   refine⟨fun h=>(by simp at h),fun _=>⟨Om,(k,a+s,(0:Nat)),Oe,⟨Nat.zero_le _,by trivial⟩,fun(y:Nat×Int×Nat) hy=>⟨fun h3=> ?_,fun h3=> ?_⟩⟩⟩
   ·obtain⟨k',a',m⟩:=y
    obtain⟨m1,j3,j4⟩:=hy
    have j3:k=k':=j3
    have j4:a+s=a':=j4
    subst j3;subst j4
    dsimp only at m1
    have hm:m<60:=by have:=of_decide_eq_true h3;dsimp only at this;omega
    refine⟨⟨Oe,hl⟩,Oe,fun h=> ?_,fun _=>⟨Oe,(k,a+s,m+1),Oe,⟨by show m+1≤60;omega,rfl,rfl⟩,by show 60-(m+1)<60-m;omega⟩⟩
    rw[Hy,Bool.and_eq_true] at h
    have h4:=of_decide_eq_true h.1
    obtain⟨r1,r2⟩:=J5j h0 hI hmk (h:=(Jc l).1+(m:Int)) Om Om h4
    have h5:=h.2
    rw[r1,decide_eq_false Om] at h5
    cases h5
   ·obtain⟨k',a',m⟩:=y
    obtain⟨m1,j3,j4⟩:=hy
    have j3:k=k':=j3
    have j4:a+s=a':=j4
    subst j3;subst j4
    have e2:=Dw (f:=Jyc l) (d:=X4) hk
    exact⟨Oe,(k+1,a+s),Oe,⟨hk,by show a+s=_;rw[e2,←k2,e]⟩,by show(Jc l).2.2.1.length-(k+1)<(Jc l).2.2.1.length-k;omega⟩
 ·obtain⟨k,a⟩:=x
  obtain⟨k1,k2⟩:=hx
  dsimp only at k1 k2 h1
  have hk:¬k<(Jc l).2.2.1.length:=by simpa using h1
  rw[List.take_of_length_le Om] at k2
  have a0:a=0:=by rw[k2];exact J2e
  clear k2
  subst a0
  have hbe:(K2 l).1=Ky l:=by rw[hbl]
  have hbn:(Ky l).length=(Jc l).2.2.2.1.length:=Jgq
  simp only[hbe]
  refine⟨(0:Nat),Oe,Nat.zero_le _,fun(i:Nat) hi=>⟨fun h2=> ?_,fun h2=> ?_⟩⟩
  ·have hil:i<(Ky l).length:=by simpa using h2
   have hio:i<(Jc l).2.2.2.1.length:=by(first|omega|dsimp only;omega)
   have hmo:=Je (d:=Kb) hio
   have eb:(Ky l).getD i (({data:={toList:=[]}}:ByteArray),0,0,0,0,0)=K6 (Jc l).2.1 (Jc l).2.2.2.2.1 ((Jc l).2.2.2.1.getD i Kb):=Jq8 hio
   have ok:Jsm (K6 (Jc l).2.1 (Jc l).2.2.2.2.1 ((Jc l).2.2.2.1.getD i Kb)):=L9 (tk:=(Jc l).1) (S:=(Jc l).2.2.1) (X:=(Jc l).2.2.2.2.2.1) (Q:=(Jc l).2.2.2.2.2.2) hr hmo
   have fn:=Jx9 hr hI hmo
   have ng:=Jt2 (L:=Ky l) hil
   have bt:=Jkt hr ((Ky l).take i) (fun b hb=>List.mem_of_mem_take hb) (by rw[List.length_take];omega)
   rw[eb] at ng⊢
   have o1:=ok.sent
   have o2:=ok.got
   have o3:=ok.money
   have o4:=ok.fine
   have en:(K6 (Jc l).2.1 (Jc l).2.2.2.2.1 ((Jc l).2.2.2.1.getD i Kb)).1=((Jc l).2.2.2.1.getD i Kb).1:=rfl
   refine⟨Oe,Oe,fun h=> ?_,fun _=>⟨Om,Om,⟨Om,Om⟩,Oe,(i+1:Nat), ?_,Om,Om⟩⟩
   ·rw[en,decide_eq_false Om,decide_eq_false Om] at h
    simp at h
   ·rw[ng];exact Oe
  ·have hil:¬i<(Ky l).length:=by simpa using h2
   rw[List.take_of_length_le Om]
   refine⟨(0:Nat),Oe,Nat.zero_le _,fun(j:Nat) hj=>⟨fun h3=> ?_,fun h3=> ?_⟩⟩
   ·have hjs:(j:Int)<(Jc l).2.1:=of_decide_eq_true h3
    obtain⟨e1,e2⟩:=Jox h0 (h:=(j:Int)) Om hjs
    have bj:=Jea hr h0 (h:=(j:Int)) Om hjs
    have bt:=J1l hr h0 j Om Om
    have ng:=Jtr (l:=l) (n:=j)
    refine⟨hl,fun h=>absurd h (by rw[e1];simp),fun _=>⟨Om,Om,Om,Om,Om,Om,Oe,(j+1:Nat), ?_,Om,Om⟩⟩
    rw[ng];exact Oe
   ·have hjs:¬(j:Int)<(Jc l).2.1:=of_decide_eq_false h3
    have ej:j=(Jc l).2.1.toNat:=by(first|omega|dsimp only;omega)
    subst ej
    have eT:=Jpf hr h0
    have bt:=Jkt hr (Ky l) (fun b hb=>hb) Om
    rw[←eT]
    refine⟨fun h=>(by simp at h),fun _=>⟨hl,fun h=> ?_,fun h=> ?_⟩⟩
    ·have z:(Uk (Ky l)).1=0:=by simpa using h
     rw[J52 h0 z]
     simp
    ·have z:(Uk (Ky l)).1≠0:=by simpa using h
     obtain⟨l1,l2,l3,l4,l5⟩:=J1c hr h0 z
     have m1:(Yl l).1.1*(Uk (Ky l)).1=((Uk (Ky l)).1-(Uk (Ky l)).2.1)*(Yl l).1.2:=l4
     have m2:0≤((Uk (Ky l)).1-(Uk (Ky l)).2.1)*(Yl l).1.2:=Int.mul_nonneg Om Om
     have m3:((Uk (Ky l)).1-(Uk (Ky l)).2.1)*(Yl l).1.2≤1536000*1536000:=Int.mul_le_mul Om Om Om Od
     rw[m1,l1,decide_eq_true l2,decide_eq_true l3]
     refine⟨⟨fun _=>Om,fun _=>Om,fun _=>Om⟩,by trivial, ?_⟩
     simp
end Go.Proofs.YtcibbcfiemeoiaaGreatDoor

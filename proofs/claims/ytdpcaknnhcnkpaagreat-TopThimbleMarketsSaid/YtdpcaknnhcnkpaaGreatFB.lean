/- Contracts of the functions that the law reaches: part of the proof. -/
import Derived.Test.YtdpcaknnhcnkpaaGreatFA
import Derived.Lib.ItoaMem
import Derived.Lib.ItoaLen
set_option linter.unusedSimpArgs false
set_option linter.unusedVariables false
set_option maxRecDepth 20000
namespace Go.Proofs.YtdpcaknnhcnkpaaGreat
open Go.Sx
set_option maxHeartbeats 20000000
def Jac (l:List Ev) (h:Int):Int:=Ja [opE l [],Jd h 0 999999999,bif decide ((Kd l).2.1≤h) then 22 else 0]
def D8 (l:List Ev) (h:Int):H3:=if Jac l h=0 then Jdh (Kd l).2.2.2.2.1 h (Kd l).2.2.2.1 (0,0,0) else(0,0,0)
def Jwr:Con:={args:=[.val false (.list 67 sEv),aI],ress:=[(true,sH3),I],owns:=[],pre:=fun(l,_)=>[lOk l],spec:=fun(l,h,_)=>(D8 l h,Jac l h,())}
abbrev imR (r:Reg) (i:Nat):List (Nat×Res):=[(i, .imm 140 Jie r.2.2.1),(i+1, .imm 108 Jcw r.2.2.2.1),(i+2, .imm 111 Jmu r.2.2.2.2.1),(i+3, .imm 143 Jgl r.2.2.2.2.2.1),(i+4, .imm 186 Ja5 r.2.2.2.2.2.2)]
abbrev bxR (r:Reg) (i:Nat):Res:= .box 100 [.int .i64 r.1, .int .i64 r.2.1, .sl i, .sl (i+1), .sl (i+2), .sl (i+3), .sl (i+4)]
abbrev Jxd (l:List Ev) (h:Int):Ann:={X:=Nat×H3,σ:=fun(k,a,b,c)=>⟨9,[(1, .one (.int .i64 h)),(4, .one (.ptr 1 0)),(6, .one (.ptr 7 0)),(9, .one (.ptr 8 0)),(33, .one (.sl 3)),(34, .one (.int .i64 (Kd l).2.2.2.1.length)),(35, .one (.int .i64 k))],(1, .box 50 [.int .i64 0, .int .i64 0, .int .i64 0])::(7,bxR (Kd l) 2)::(8, .box 50 [.int .i64 a, .int .i64 b, .int .i64 c])::imR (Kd l) 2⟩,inv:=fun(k,a,b,c)=>Jac l h=0∧k≤(Kd l).2.2.2.1.length∧(0≤a∧a≤1000*k)∧(0≤b∧b≤1000*k)∧(-2000000*k≤c∧c≤2000000*k)∧Jdh (Kd l).2.2.2.2.1 h ((Kd l).2.2.2.1.drop k) (a,b,c)=D8 l h,mu:=fun(k,_)=>(Kd l).2.2.2.1.length-k}
theorem Jwf {a b c:Int} (h:Ja [a,b,c]=0):a=0∧b=0∧c=0:=by
 have h:=firstS_zero.1 h
 exact⟨h a (by simp),h b (by simp),h c (by simp)⟩
def Z26 (a:List Ev):=Ln (Kd a).2.2.2.1
def Khq (a:List Ev) (b:Nat×H3):=List.getD (Kd a).2.2.2.1 b.1 Jhz
def Kho (a:List Ev) (b:Nat×H3):=(Khq a b).2
def Khm (a:List Ev) (b:Nat×H3):=(Khq a b).1
def Khk (a:List Ev) (b:Nat×H3):=(Kho a b).2
def Khj (a:List Ev) (b:Nat×H3):=(Khk a b).2
def Khh (a:List Ev) (b:Nat×H3):=(Khj a b).2
def Khf (a:List Ev) (b:Nat×H3):=(Khh a b).2
def Khd (a:List Ev) (b:Nat×H3):=(Khh a b).1
def Kff (a:List Ev) (b:Nat×H3) (c:Int):=Kj (Kd a).2.2.2.2.1 (Khm a b) c
def Kfa (a:List Ev) (b:Int):=Ja [opE a [],Z64 b,bif decide ((Kd a).2.1≤b) then 22 else 0]
def Keg (a:List Ev) (b:Nat×H3) (c:Int):=(Gt (Kd a).2.2.2.2.1 (Kff a b c) Ju2).2.2
def J4k (a:List Ev) (b:Nat×H3) (c:Int):=(Keg a b c).2
def Ked (a:Nat×H3) (b:List Ev) (c:Int):=a.2.1+(Keg b a c).1
def Kd8 (a:Nat×H3) (b:List Ev) (c:Int):=a.2.2.1+J4k b a c
def J4f (a:List Ev):=(Kd a).2.2.1=(Kd a).2.2.1∧(Kd a).2.2.2.1=(Kd a).2.2.2.1∧(Kd a).2.2.2.2.1=(Kd a).2.2.2.2.1∧(Kd a).2.2.2.2.2.1=(Kd a).2.2.2.2.2.1∧(Kd a).2.2.2.2.2.2=(Kd a).2.2.2.2.2.2
def Kdq (a:List Ev) (b:Nat×H3) (c:Int):=Khd a b-J4k a b c
def Kdp (a:List Ev) (b:Nat×H3) (c:Int):=J4k a b c*(Khf a b).1
def Kdo (a:List Ev) (b:Nat×H3) (c:Int):=3*Kdq a b c
def Kdn (a:List Ev) (b:Int) (c:Nat) (d e f:Int):=Jac a b=0∧c≤List.length (Kd a).2.2.2.1∧Jy3 d c∧Jy3 e c∧((-2000000)*Nc c≤f∧f≤2000000*Nc c)∧Jdh (Kd a).2.2.2.2.1 b (List.drop c (Kd a).2.2.2.1) (d,e,f)=D8 a b
def Kdg (a:Nat×Int×Int×Int) (b:List Ev) (c:Int):=match a with|(k,a,b_1,c_1)=>Kdn b c k a b_1 c_1
def Kc7 (a:Nat×Int×Int×Int) (b:List Ev) (c:Int) (d:Nat×H3):=Kdg a b c∧List.length (Kd b).2.2.2.1-a.1<List.length (Kd b).2.2.2.1-d.1
def Kcu (a:List Ev) (b:Nat×H3) (c:Int):=Kdp a b c-Kdo a b c
def Kct (a:Nat×H3) (b:List Ev) (c:Int):=a.2.2.2+Kcu b a c
theorem Kmf:Ok Tryz.prog 13 Jwr:=okW W93 Tryz.f13 (fun xx=>Dl (Jxd xx.1 xx.2.1)) fun xx=>by
 obtain⟨(l:List Ev),(h:Int),_⟩:=xx
 refine(by kernel_rfl:(lOk l→(lOk l∧0≤1000000)∧3≤1000000∧Br (Kfa l h !=0) (Z65=D8 l h∧Kfa l h=Jac l h) (∃(x:Nat×Int×Int×Int),Si h (Z26 l=Z26 l∧0=Nc x.1∧Si 0 (Si 0 (Si 0 ((Kd l).1=(Kd l).1∧(Kd l).2.1=(Kd l).2.1∧0=x.2.1∧0=x.2.2.1∧0=x.2.2.2∧J4f l))))∧Kdg x l h∧∀(x:Nat×H3),(match x with|(k,a,b,c)=>Kdn l h k a b c)→Br (decide (Nc x.1<Z26 l)) (Tw (Bd (Nc x.1) (Z26 l))∧Br (Jv (Khm l x,(Kho l x).1,(Khk l x).1,E2 (Khj l x).1,Khd l x,E2 (Khf l x)) h) ((Jq2 l∧Tw (Bd (Kff l x h) (Ln (Kd l).2.2.2.2.1)))∧Iw (Ked x l h)∧Iw (Kd8 x l h)∧(Iw (Kdp l x h)∧Iw (Kdq l x h)∧Iw (Kdo l x h)∧Iw (Kcu l x h)∧Iw (Kct x l h))∧Iw (Nc x.1+1)∧∃(y:Nat×Int×Int×Int),Si h (Si (Z26 l) (Nc x.1+1=Nc y.1∧Si 0 (Si 0 (Si 0 (Si (Kd l).1 (Si (Kd l).2.1 (Ked x l h=y.2.1∧Kd8 x l h=y.2.2.1∧Kct x l h=y.2.2.2∧J4f l)))))))∧Kc7 y l h x) (Iw (Nc x.1+1)∧∃(y:Nat×Int×Int×Int),Si h (Si (Z26 l) (Nc x.1+1=Nc y.1∧Si 0 (Si 0 (Si 0 (Si (Kd l).1 (Si (Kd l).2.1 (x.2.1=y.2.1∧x.2.2.1=y.2.2.1∧x.2.2.2=y.2.2.2∧J4f l)))))))∧Kc7 y l h x)) ((x.2.1,E2 x.2.2)=D8 l h∧0=Jac l h)))=_).mp ?_
 delta Z26 Z64 Z65 Ju2 Jy3 Jhz Khq Kho Khm Khk Khj Khh Khf Khd Kff Kfa Jq2 Keg J4k Ked Kd8 J4f Kdq Kdp Kdo Kdn Kdg Kc7 Kcu Kct Br Iw Bd Tw Si Ln Nc Gt B0 E2
 intro hl
 refine⟨⟨hl,by decide⟩,by decide,fun e=> ?_,fun e=> ?_⟩
 ·have e:Jac l h≠0:=bne_iff_ne.1 e
  exact⟨by unfold D8;rw[if_neg e],rfl⟩
 ·have e0:Jac l h=0:=bne_eq_false_iff_eq.1 e
  clear e
  have hr:=Du (l:=l)
  have nO:=hr.nO
  have hst:h<(Kd l).2.1:=by
   have:=(Jwf e0).2.2
   by_cases q:(Kd l).2.1≤h
   ·rw[decide_eq_true q] at this;cases this
   ·omega
  refine⟨((0:Nat),0,0,0),by simp,⟨e0,Nat.zero_le _,by omega,by omega,by omega,by unfold D8;rw[if_pos e0];rfl⟩,fun(x:Nat×H3) hk=>⟨fun h1=> ?_,fun h1=> ?_⟩⟩
  ·obtain⟨k,a,b,c⟩:=x
   have hlt:k<(Kd l).2.2.2.1.length:=by simpa using h1
   obtain⟨_,k1,k2,k3,k4,k5⟩:=hk
   generalize Kd l=r at*
   obtain⟨tk,st,S,O,M,X,Q⟩:=r
   have hlt:k<O.length:=hlt
   have hst:h<st:=hst
   have nO:O.length≤32:=nO
   have hx:=Jf (d:=K6) hlt
   have k5:Jdh M h (O.drop k) (a,b,c)=D8 l h:=k5
   rw[V5 (d:=K6) hlt,Jdh] at k5
   have hz:((({data:={toList:=[]}}:ByteArray),({data:={toList:=[]}}:ByteArray),({data:={toList:=[]}}:ByteArray),((0:Int),(0:Int)),(0:Int),(0:Int),(0:Int)):Ord)=K6:=rfl
   have hzm:((({data:={toList:=[]}}:ByteArray),(0:Int),(0:Int),(0:Int)):Met)=Jvz:=rfl
   simp only[hz,hzm,Prod.eta]
   have hO:Jf2 S (O.getD k K6):=hr.ord _ hx
   have hd:∀h,Jv (O.getD k K6) h=true→h<st→0≤Kj M (O.getD k K6).1 h:=hr.done _ hx
   generalize O.getD k K6=y at*
   unfold Jv9 at k5
   have bp:=hO.pow
   have bc:=hO.pri
   have em:M.getD (Kj M y.1 h).toNat Jvz=Jao M y.1 h:=rfl
   simp only[em]
   refine⟨by omega,fun hq=> ?_,fun hq=> ?_⟩
   ·rw[hq,cond_true] at k5
    have hm:=hd _ hq hst
    have hl:=Jbo (l:=M) (s:=y.1) (h:=h)
    have hM:Jrc (Jao M y.1 h):=hr.met _ (Jf (show _<M.length by omega))
    have m1:=hM.sent
    have m2:=hM.got
    have q1:0≤(Jao M y.1 h).2.2.2*y.2.2.2.2.2.1:=Int.mul_nonneg m2.1 bc.1
    have q2:(Jao M y.1 h).2.2.2*y.2.2.2.2.2.1≤1000*1000:=Int.mul_le_mul (by omega) bc.2 bc.1 (by decide)
    exact⟨⟨hr,by omega,by omega⟩,by omega,by omega,by omega,by omega,(k+1,a+(Jao M y.1 h).2.2.1,b+(Jao M y.1 h).2.2.2,c+((Jao M y.1 h).2.2.2*y.2.2.2.2.2.1-3*(y.2.2.2.2.1-(Jao M y.1 h).2.2.2))),by simp,⟨e0,by(first|omega|dsimp only;omega),by(first|omega|dsimp only;omega),by(first|omega|dsimp only;omega),by(first|omega|dsimp only;omega),k5⟩,by(first|omega|dsimp only;omega)⟩
   ·rw[hq,cond_false] at k5
    exact⟨by omega,(k+1,a,b,c),by simp,⟨e0,by(first|omega|dsimp only;omega),by(first|omega|dsimp only;omega),by(first|omega|dsimp only;omega),by(first|omega|dsimp only;omega),k5⟩,by(first|omega|dsimp only;omega)⟩
  ·obtain⟨k,a,b,c⟩:=x
   have hlt:¬k<(Kd l).2.2.2.1.length:=by simpa using h1
   obtain⟨_,k1,k2,k3,k4,k5⟩:=hk
   have:k=(Kd l).2.2.2.1.length:=by omega
   rw[this,List.drop_length,Jdh] at k5
   exact⟨k5,e0.symm⟩
abbrev W94:=W93.add Kmf
abbrev Kkk:Bool×Sch:=(false, .str)
abbrev taI:AK:= .val false (.int .i64)
theorem J7e {n:Int} (h0:0≤n) (h1:n<256):IntKind.u8.wrap n=n:=by
 simp[IntKind.wrap,IntKind.signed,IntKind.bits]
 omega
def bs (l:List UInt8):ByteArray:=⟨l.toArray⟩
def Vr (n:Int):ByteArray:=⟨(Lib.itoa n).toArray⟩
def Jp2 (k:Nat):Con:={args:=[taI],ress:=[Kkk],owns:=[],pre:=fun(n,_)=>[k≤18,-(10^k:Int)<n,n<10^(k+1)],spec:=fun(n,_)=>(Vr n,())}
def J48 (a:Int):=(Iw (48+a)∧0<1)∧ByteArray.mk (Array.mk [UInt8.ofNat (Int.toNat (IntKind.wrap IntKind.u8 (48+a)))])=Vr a
def Z72 (a:Int):=0-Int.tmod a 10
def Z88:=(10:Int)=0→False
def J2a (a:Nat):=(10:Int)^(a+(1:Nat))
def J5u (a:Nat):= -10^a
def Kg6 (a:Int) (b:Nat):=Int.tdiv a 10<J2a b
def Kf4 (a:Nat) (b:Int):=J5u a<Int.tdiv b 10
theorem Jrv {l:List UInt8} {n:Int} (h:l=Lib.itoa n):(⟨⟨l⟩⟩:ByteArray)=Vr n:=by subst h;rfl
theorem Jnd (u:Nat):(Vr (u:Int)).data.toList=Lib.decDigits u:=by unfold Vr;rw[Lib.itoa_nonneg]
theorem Jzf (u:Nat) (h:1≤u):(Vr (-(u:Int))).data.toList=45::Lib.decDigits u:=by unfold Vr;rw[Lib.itoa_neg u h]
theorem Lj (n:Int) (h0: -9223372036854775808≤n) (h1:n≤9223372036854775807):(Vr n).size≤21:=by
 have:=Lib.itoa_length_le n h0 h1
 show(Lib.itoa n).toArray.size≤21
 simpa using this
theorem Jpp {u:Nat} (h:¬u<10):Lib.decDigits u=Lib.decDigits (u/10)++[UInt8.ofNat (48+u %10)]:=by rw[Lib.decDigits,dif_neg h]
theorem Jtr {x:Nat} (h:x<10):UInt8.ofNat (IntKind.u8.wrap (48+(x:Int))).toNat=UInt8.ofNat (48+x):=by
 rw[J7e (by omega) (by omega)]
 congr 1
theorem Jgx (n:Int) (h0:¬n<0) (h1:n<10):(⟨⟨[UInt8.ofNat (IntKind.u8.wrap (48+n)).toNat]⟩⟩:ByteArray)=Vr n:=by
 obtain⟨u,rfl⟩:=Int.eq_ofNat_of_zero_le (by omega:0≤n)
 refine Jrv ?_
 have e:Lib.itoa (u:Int)=Lib.decDigits u:=Lib.itoa_nonneg u
 have hu:u<10:=by omega
 rw[e,Lib.decDigits_one hu]
 exact congrArg (·::[]) (Jtr hu)
theorem Jze (n:Int):wpF Tryz.prog W94.g (na ()) Tryz.f18 (Jp2 0) (n,()):=by
 refine(by kernel_rfl:(0≤18→-10^0<n→n<10^1→Br (decide (n<0)) (Br (decide ((-10)<n)) (Jra 3 2) (Jra 4 2)) (Br (decide (n<10)) (J48 n) (Jra 7 2)))=_).mp ?_
 delta J48 Br Iw
 intro _ h0 h1
 have e0:(10:Int)^0=1:=rfl
 have e1:(10:Int)^1=10:=rfl
 rw[e0] at h0
 rw[e1] at h1
 refine⟨fun h=>absurd (of_decide_eq_true h) (by omega),fun h=>⟨fun h2=>⟨⟨by omega,by decide⟩,Jgx n (of_decide_eq_false h) (of_decide_eq_true h2)⟩,fun h2=>absurd (of_decide_eq_false h2) (by omega)⟩⟩
theorem Jzd (k:Nat) (n:Int):wpF Tryz.prog ((18,Jp2 k)::W94.g) (na ()) Tryz.f18 (Jp2 (k+1)) (n,()):=by
 refine(by kernel_rfl:(k+1≤18→-J2a k<n→n<10^(k+1+1)→Br (decide (n<0)) (Br (decide ((-10)<n)) ((Iw (0-n)∧k≤18∧J5u k<0-n∧0-n<J2a k∧Nc (1+ByteArray.size (Vr (0-n)))≤9223372036854775807)∧ByteArray.mk (Array.mk (45::([]++(Vr (0-n)).data.toList)))=Vr n) ((Z88∧Iw (Int.tdiv n 10)∧k≤18∧Kf4 k n∧Kg6 n k∧Z88∧Iw (Z72 n)∧k≤18∧J5u k<Z72 n∧Z72 n<J2a k∧Nc (ByteArray.size (Vr (Int.tdiv n 10))+ByteArray.size (Vr (Z72 n)))≤9223372036854775807)∧ByteArray.mk (Array.mk ((Vr (Int.tdiv n 10)).data.toList++(Vr (Z72 n)).data.toList))=Vr n)) (Br (decide (n<10)) (J48 n) ((Z88∧Iw (Int.tdiv n 10)∧k≤18∧Kf4 k n∧Kg6 n k∧Z88∧Iw (48+Int.tmod n 10)∧0<1∧Nc (ByteArray.size (Vr (Int.tdiv n 10))+1)≤9223372036854775807)∧ByteArray.mk (Array.mk ((Vr (Int.tdiv n 10)).data.toList++[UInt8.ofNat (Int.toNat (IntKind.wrap IntKind.u8 (48+Int.tmod n 10)))]))=Vr n)))=_).mp ?_
 delta Z72 Z88 J2a J5u Kg6 Kf4 J48 Br Iw Nc
 intro hk h0 h1
 have hp0:(0:Int)<10^k:=Int.pow_pos (by decide)
 have hp1:(1:Int)≤10^k:=by omega
 have hp2:(10:Int)^k≤100000000000000000:=by
  have h:=Nat.pow_le_pow_right (n:=10) (by decide) (show k≤17 by omega)
  have h2:((10^k:Nat):Int)≤((10^17:Nat):Int):=Int.ofNat_le.2 h
  have h3:((10^17:Nat):Int)=100000000000000000:=by decide
  have e:((10:Int)^k)=((10^k:Nat):Int):=by simp
  omega
 have e1:(10:Int)^(k+1)=10^k*10:=Int.pow_succ ..
 have e2:(10:Int)^(k+1+1)=10^k*10*10:=by rw[Int.pow_succ,e1]
 rw[e1] at h0
 rw[e2] at h1
 rw[e1]
 generalize(10:Int)^k=p at*
 refine⟨fun h=>⟨fun h2=> ?_,fun h2=> ?_⟩,fun h=>⟨fun h2=>⟨⟨by have:=of_decide_eq_true h2;have:=of_decide_eq_false h;omega,by decide⟩,Jgx n (of_decide_eq_false h) (of_decide_eq_true h2)⟩,fun h2=> ?_⟩⟩
 ·have h:=of_decide_eq_true h
  have h2:=of_decide_eq_true h2
  obtain⟨u,hu⟩:=Int.eq_ofNat_of_zero_le (by omega:0≤0-n)
  have hn:n= -(u:Int):=by omega
  have hs:=Lj (0-n) (by omega) (by omega)
  refine⟨⟨by omega,by omega,by omega,by omega,by omega⟩,Jrv ?_⟩
  rw[hu,Jnd,hn,Lib.itoa_neg u (by omega)];rfl
 ·have h:=of_decide_eq_true h
  have h2:=of_decide_eq_false h2
  obtain⟨u,hu⟩:=Int.eq_ofNat_of_zero_le (by omega:0≤0-n)
  have hn:n= -(u:Int):=by omega
  have ed:n.tdiv 10= -((u/10:Nat):Int):=by rw[hn,Int.neg_tdiv];rfl
  have em:n.tmod 10= -((u %10:Nat):Int):=by rw[hn,Int.neg_tmod];rfl
  have em2:0-n.tmod 10=((u %10:Nat):Int):=by rw[em];omega
  rw[em2,ed]
  have hs1:=Lj (-((u/10:Nat):Int)) (by omega) (by omega)
  have hs2:=Lj ((u %10:Nat):Int) (by omega) (by omega)
  refine⟨⟨by omega,by omega,by omega,by omega,by omega,by omega,by omega,by omega,by omega,by omega,by omega⟩,Jrv ?_⟩
  rw[Jzf _ (by omega),Jnd,hn,Lib.itoa_neg u (by omega),Jpp (u:=u) (by omega),Lib.decDigits_one (i:=u %10) (by omega)];rfl
 ·have h:=of_decide_eq_false h
  have h2:=of_decide_eq_false h2
  obtain⟨u,hu⟩:=Int.eq_ofNat_of_zero_le (by omega:0≤n)
  subst hu
  have ed:(u:Int).tdiv 10=((u/10:Nat):Int):=rfl
  have em:(u:Int).tmod 10=((u %10:Nat):Int):=rfl
  rw[em,ed]
  have hs1:=Lj ((u/10:Nat):Int) (by omega) (by omega)
  refine⟨⟨by omega,by omega,by omega,by omega,by omega,by omega,by omega,by decide,by omega⟩,Jrv ?_⟩
  rw[Jnd,Lib.itoa_nonneg,Jpp (u:=u) (by omega),Jtr (by omega)]
theorem Jty:∀k,Ok Tryz.prog 18 (Jp2 k)
 |0=>Ke mixed W94.ok (by kernel_rfl) (by kernel_rfl) na fun xx=>Jze xx.1
 |k+1=>Ke mixed (.cons (Jty k) W94.ok) (by kernel_rfl) rfl na fun xx=>Jzd k xx.1
theorem Kma:Ok Tryz.prog 18 (Jp2 17):=Jty 17
abbrev W95:=W94.add Kma
def J0k:Con:={args:=[.val false (.list 108 Jcw), .fn [(true,Jcw)] (true,Jnt)],ress:=[(false, .list 118 Jnt)],owns:=[true],pre:=fun(l,(q,_),_)=>[l.length≤1000000,∀x∈l,Kq (q (x,()))],spec:=fun(l,(_,f),_)=>(l.map fun x=>f (x,()),())}
def J16 (a:Ord×Unit→Jln) (b:Nat) (c:List Ord):=List.map (fun(x:Ord)=>a (x,PUnit.unit)) (List.take b c)
def Kel (a:Ord×Unit→Jln) (b:Nat) (c:List Ord):=List.length (J16 a b c)
def Kc2 (a:Ord×Unit→Jln) (b:List Ord) (c:Nat):=a (J1i b c)
def Kc1 (a:Ord×Unit→Jln) (b:List Ord) (c:Nat):=(Kc2 a b c).2
def Kc0 (a:Ord×Unit→Jln) (b:List Ord) (c:Nat):=(Kc1 a b c).2
def Kcz (a:Ord×Unit→Jln) (b:List Ord) (c:Nat):=(Kc0 a b c).2
theorem Klh:Ok Tryz.prog 48 J0k:=okW W95 Tryz.f48 (fun xx=>Dl (Jk9 108 118 Jcw xx.1 (true,Jnt) true xx.2.1.1 xx.2.1.2)) fun xx=>by
 obtain⟨(l:List Ord),⟨(q:Ord×Unit→List Prop),(f:Ord×Unit→Jln)⟩,_⟩:=xx
 refine(by kernel_rfl:(Z41 l→J6d l q→∃(x:Nat),Si (Ln l) (0=Nc x∧Sf l ((fun(x:Ord×PUnit)=>q x)=q∧(fun(x:Ord×PUnit)=>f x)=f∧Kel f x l=0))∧x≤List.length l∧∀(x:Nat),x≤List.length l→Br (decide (Nc x<Ln l)) (Tw (Bd (Nc x) (Ln l))∧(J32 q l x∧(Kel f x l+1)*56≤140737488355328)∧Z20 x∧∃(y:Nat),Si (Ln l) (Z83 x y∧Sf l ((fun(x:Ord×PUnit)=>q x)=q∧(fun(x:Ord×PUnit)=>f x)=f∧J16 f x l++[((Kc2 f l x).1,(Kc1 f l x).1,(Kc0 f l x).1,(Kcz f l x).1,E2 (Kcz f l x).2)]=J16 f y l))∧y≤List.length l∧List.length l-y<List.length l-x) (J16 f x l=List.map (fun(x:Ord)=>f (x,PUnit.unit)) l))=_).mp ?_
 delta Z20 Z41 Z65 Z83 Jhz J6f J6d J6b J6a J58 J54 J16 Kel J1i Kc2 Kc1 Kc0 Kcz J32 Br Iw Bd Tw Sf Si Ln Nc B0 E2
 intro hb hq
 refine⟨(0:Nat),⟨rfl,rfl,rfl,rfl,rfl,by simp⟩,Nat.zero_le _,fun(k:Nat) hk=>⟨fun h=> ?_,fun h=> ?_⟩⟩
 ·have hlt:k<l.length:=by simpa using h
  refine⟨by omega,⟨hq (l.getD k K6) (Jf hlt),by simp only[List.length_map,List.length_take];omega⟩,by omega,(k+1:Nat),⟨rfl,by simp,rfl,rfl,rfl, ?_⟩,by omega,by omega⟩
  rw[←Ys (d:=K6) hlt,List.map_append];rfl
 ·have hlt:¬k<l.length:=by simpa using h
  rw[List.take_of_length_le (by omega)]
abbrev W96:=W95.add Klh
def Xb (l:List Ev):List Jln:=(Kd l).2.2.2.1.map (Ue (Kd l).2.1 (Kd l).2.2.2.2.1)
def Jmn (l:List Ev) (a b:ByteArray):Int:=Ja [opE l [a,b],bif a.toList==b.toList then 24 else 0]
def Jq1 (l:List Ev) (a b:ByteArray):Int:=if Jmn l a b=0 then Jjc (Kd l).2.1 (Kd l).2.2.2.1 (Kd l).2.2.2.2.1 a b else 0
def Jw2:Con:={args:=[.val false (.list 67 sEv),aS,aS],ress:=[I,I],owns:=[],pre:=fun(l,_)=>[lOk l],spec:=fun(l,a,b,_)=>(Jq1 l a b,Jmn l a b,())}
def Kh1 (a:List Ev) (b c:Bt):=Ja [opE a [b,c],bif Lb b c then 24 else 0]
theorem Kmd:Ok Tryz.prog 15 Jw2:=okW W96 Tryz.f15 na fun xx=>by
 obtain⟨(l:List Ev),(a:ByteArray),(b:ByteArray),_⟩:=xx
 refine(by kernel_rfl:(lOk l→(lOk l∧2≤1000000)∧2≤1000000∧Br (Kh1 l a b !=0) (0=Jq1 l a b∧Kh1 l a b=Jmn l a b) (Jq2 l∧Jjc (Kd l).2.1 (Kd l).2.2.2.1 (Kd l).2.2.2.2.1 a b=Jq1 l a b∧0=Jmn l a b))=_).mp ?_
 delta Kh1 Jq2 Br Lb E2
 intro hl
 refine⟨⟨hl,by decide⟩,by decide,fun h=> ?_,fun h=> ?_⟩
 ·have h:Jmn l a b≠0:=bne_iff_ne.1 h
  exact⟨by unfold Jq1;rw[if_neg h],rfl⟩
 ·have h:Jmn l a b=0:=bne_eq_false_iff_eq.1 h
  exact⟨Du,by unfold Jq1;rw[if_pos h],h.symm⟩
abbrev W97:=W96.add Kmd
def Jbt (l:List Ev):(Int×Int)×Int:=if opE l []=0 then Jz0 (Kd l).2.1 (Kd l).2.2.2.1 (Kd l).2.2.2.2.1 else((0,0),opE l [])
def Jwo:Con:={args:=[.val false (.list 67 sEv)],ress:=[(true,Jif),I],owns:=[],pre:=fun(l,_)=>[lOk l],spec:=fun(l,_)=>((Jbt l).1,(Jbt l).2,())}
abbrev Jqv (l:List Ev) (B:List Jln):Ann:={X:=Nat×Int×Int,σ:=fun(k,s,g)=>⟨9,[(2, .one (.ptr 1 0)),(6, .one (.int .i64 s)),(7, .one (.int .i64 g)),(23, .one (.sl 8)),(24, .one (.int .i64 B.length)),(25, .one (.int .i64 k))],[(1, .box 62 [.int .i64 0, .int .i64 0]),(8, .own 118 Jnt B)]⟩,inv:=fun(k,s,g)=>k≤B.length∧(0≤s∧s≤48000*k)∧(0≤g∧g≤s)∧Jni (B.drop k) (s,g)=Jni B (0,0),mu:=fun(k,_)=>B.length-k}
def Ke3 (a:List Ev):=List.map (fun(x:Ord)=>Ue (Kd a).2.1 (Kd a).2.2.2.2.1 x) (Kd a).2.2.2.1
def Ke1 (a:List Ev) (b:Nat×Int×Int):=(List.getD (Xb a) b.1 (B0,0,0,Z65)).2.2
def Ke0 (a:Nat×Int×Int) (b:List Ev):=a.2.1+(Ke1 b a).1
def Kez (a:Nat×Int×Int) (b:List Ev):=a.2.2+(Ke1 b a).2.1
def J4b (a:Nat×Int×Int) (b:List Ev):=a.1≤List.length (Xb b)∧(0≤a.2.1∧a.2.1≤48000*Nc a.1)∧(0≤a.2.2∧a.2.2≤a.2.1)∧Jni (List.drop a.1 (Xb b)) (E2 a.2)=Jni (Xb b) (0,0)
theorem Kmc:Ok Tryz.prog 16 Jwo:=okW W97 Tryz.f16 (fun xx=>Dl (Jqv xx.1 (Xb xx.1))) fun xx=>by
 obtain⟨(l:List Ev),_⟩:=xx
 refine(by kernel_rfl:(lOk l→(lOk l∧0≤1000000)∧Br (opE l [] !=0) ((0,0)=(Jbt l).1∧opE l []=(Jbt l).2) ((List.length (Kd l).2.2.2.1≤1000000∧∀(x:Ord),x∈(Kd l).2.2.2.1→Jq2 l∧x∈(Kd l).2.2.2.1)∧∃(x:Nat×Int×Int),(0=x.2.1∧0=x.2.2∧Ln (Ke3 l)=Ln (Xb l)∧0=Nc x.1∧Si 0 (Si 0 (Ke3 l=Xb l)))∧J4b x l∧∀(x:Nat×Int×Int),J4b x l→Br (decide (Nc x.1<Ln (Xb l))) (Tw (Bd (Nc x.1) (Ln (Xb l)))∧Iw (Ke0 x l)∧Iw (Kez x l)∧Iw (Nc x.1+1)∧∃(y:Nat×Int×Int),(Ke0 x l=y.2.1∧Kez x l=y.2.2∧Si (Ln (Xb l)) (Nc x.1+1=Nc y.1∧Si 0 (Si 0 (Xb l=Xb l))))∧J4b y l∧List.length (Xb l)-y.1<List.length (Xb l)-x.1) (Br (x.2.1==0) ((0,0)=(Jbt l).1∧6=(Jbt l).2) ((Iw (x.2.1-x.2.2)∧(0≤x.2.1-x.2.2∧x.2.1-x.2.2≤1000000000000)∧1≤x.2.1∧x.2.1≤1000000000000)∧E2 (Jx7 (x.2.1-x.2.2) x.2.1)=(Jbt l).1∧0=(Jbt l).2))))=_).mp ?_
 delta Z65 Jq2 Ke3 Ke1 Ke0 Kez J4b Br Iw Bd Tw Si Ln Nc B0 E2
 intro hl
 have hr:=Du (l:=l)
 have nO:(Kd l).2.2.2.1.length≤32:=hr.nO
 simp only[Prod.eta]
 refine⟨⟨hl,by decide⟩,fun h=> ?_,fun h=>⟨⟨Nat.le_trans nO (by decide),fun x hx=>⟨hr,hx⟩⟩, ?_⟩⟩
 ·have h:=bne_iff_ne.1 h
  unfold Jbt;rw[if_neg h]
  exact⟨rfl,rfl⟩
 have h:opE l []=0:=bne_eq_false_iff_eq.1 h
 have hB:∀b∈Xb l,Ju6 b:=fun b hb=>by
  obtain⟨x,hx,rfl⟩:=List.mem_map.1 hb
  exact Jk2 hr hx
 have nB:(Xb l).length≤32:=by unfold Xb;rw[List.length_map];exact nO
 refine⟨((0:Nat),0,0),by(repeat' first|exact rfl|exact⟨⟩|apply And.intro|omega|dsimp only;omega),⟨Nat.zero_le _,by(first|omega|dsimp only;omega),by(first|omega|dsimp only;omega),rfl⟩,fun(x:Nat×Int×Int) hk=>⟨fun h1=> ?_,fun h1=> ?_⟩⟩
 ·obtain⟨k,s,g⟩:=x
  have hlt:k<(Xb l).length:=by simpa using h1
  have hx:=Jf (d:=Jqn) hlt
  have hb:=hB _ hx
  obtain⟨k1,k2,k3,k4⟩:=hk
  rw[V5 (d:=Jqn) hlt,Jni] at k4
  have m1:=hb.sent
  have m2:=hb.got
  have hzb:((({data:={toList:=[]}}:ByteArray),(0:Int),(0:Int),(0:Int),(0:Int),(0:Int)):Jln)=Jqn:=rfl
  dsimp only at k1 k2 k3 k4
  simp only[hzb]
  exact⟨by omega,by omega,by omega,by omega,(k+1,s+((Xb l).getD k Jqn).2.2.1,g+((Xb l).getD k Jqn).2.2.2.1),by simp,⟨by(first|omega|dsimp only;omega),by(first|omega|dsimp only;omega),by(first|omega|dsimp only;omega),k4⟩,by(first|omega|dsimp only;omega)⟩
 ·obtain⟨k,s,g⟩:=x
  have hlt:¬k<(Xb l).length:=by simpa using h1
  obtain⟨k1,k2,k3,k4⟩:=hk
  have:k=(Xb l).length:=by dsimp only at k1;omega
  rw[this,List.drop_length,Jni] at k4
  have e:Jbt l=if s=0 then((0,0),6) else(Jx7 (s-g) s,0):=by
   unfold Jbt Jz0
   rw[if_pos h]
   rw[show((Kd l).2.2.2.1.map (Ue (Kd l).2.1 (Kd l).2.2.2.2.1))=Xb l from rfl,←k4]
  dsimp only at k2 k3
  rw[e]
  refine⟨fun h2=> ?_,fun h2=> ?_⟩
  ·have h2:s=0:=by simpa using h2
   rw[if_pos h2]
   exact⟨rfl,rfl⟩
  ·have h2:s≠0:=by simpa using h2
   rw[if_neg h2]
   refine⟨⟨?_, ?_, ?_⟩,rfl,rfl⟩
   all_goals dsimp only
   all_goals (repeat' first|apply And.intro|omega)
abbrev W98:=W97.add Kmc
theorem Kl1:Ok Tryz.prog 28 J0e:=okW W98 Tryz.f28 na fun xx=>by
 obtain⟨(b:Bool),(e:Int),_⟩:=xx
 refine(by kernel_rfl:(J6j b e)=_).mp ?_
 delta J6j Br
 cases b<;>simp
abbrev W99:=W98.add Kl1
theorem Klz:Ok Tryz.prog 30 Jp1:=okW W99 Tryz.f30 na fun xx=>by
 obtain⟨(n:Int),(lo:Int),(hi:Int),_⟩:=xx
 refine(by kernel_rfl:(J5r n lo hi)=_).mp ?_
 delta J5r
 unfold Jd;cases decide (n<lo)<;>rfl
abbrev Kj8:=W99.add Klz
theorem Kl9:Ok Tryz.prog 19 Jun:=okW Kj8 Tryz.f19 (fun xx=>Dl (Jla xx.1)) fun xx=>by
 obtain⟨(l:List Int),_⟩:=xx
 refine(by kernel_rfl:(J31 l)=_).mp ?_
 delta Z20 Z43 Z83 J2l J31 Br Iw Bd Tw Si Ln Nc
 intro hb
 refine⟨(0:Nat),⟨rfl,rfl,rfl⟩,⟨Nat.zero_le _,rfl⟩,fun(k:Nat) hk=>⟨fun h=> ?_,fun h=> ?_⟩⟩
 ·have hlt:k<l.length:=by simpa using h
  have hd:=Jb6 hlt
  refine⟨by omega,fun h1=> ?_,fun h1=>⟨by omega,(k+1:Nat),⟨rfl,by simp,rfl⟩,⟨by omega, ?_⟩,by omega⟩⟩
  ·have h2:¬l.getD k 0=0:=by simpa using h1
   rw[hk.2,hd,if_neg h2]
  ·have h2:l.getD k 0=0:=by simpa using h1
   rw[hk.2,hd,if_pos h2]
 ·have hlt:¬k<l.length:=by simpa using h
  have:k=l.length:=by omega
  rw[hk.2,this,List.drop_length];rfl
abbrev Kj7:=Kj8.add Kl9
abbrev sLs:Sch:= .prod sI (.prod sI sI)
abbrev aLs:AK:= .val true sLs
abbrev tIv:Bool×Sch:=(true, .prod sI sI)
def J0c (x:Int×Int×Int):Int:=Ja [Jd x.1 0 1000,Jd x.2.1 0 1000,Jd x.2.2 0 1000]
def J99:Con:={args:=[aLs],ress:=[I],owns:=[],pre:=fun _=>[],spec:=fun(x,_)=>(J0c x,())}
def Z63 (a:Int):=Jd a 0 1000
theorem Kky:Ok Tryz.prog 73 J99:=okW Kj7 Tryz.f73 na fun xx=>by
 obtain⟨⟨(a:Int),(b:Int),(c:Int)⟩,_⟩:=xx
 refine(by kernel_rfl:(3≤1000000∧Ja [Z63 a,Z63 b,Z63 c]=J0c (a,b,c))=_).mp ?_
 delta Z63
 exact⟨by decide,rfl⟩
abbrev Kj6:=Kj7.add Kky
def Jhy (x:Int×Int×Int) (p:Int):Int:=Ja [J0c x,Jd p 0 1000]
def J97:Con:={args:=[aLs,aI],ress:=[I],owns:=[],pre:=fun _=>[],spec:=fun(x,p,_)=>(Jhy x p,())}
theorem Klk:Ok Tryz.prog 45 J97:=okW Kj6 Tryz.f45 na fun xx=>by
 obtain⟨⟨(a:Int),(b:Int),(c:Int)⟩,(p:Int),_⟩:=xx
 refine(by kernel_rfl:(2≤1000000∧Ja [J0c (a,b,c),Z63 p]=Jhy (a,b,c) p)=_).mp ?_
 delta Z63
 exact⟨by decide,rfl⟩
abbrev Kj5:=Kj6.add Klk
def lsN (x:Int×Int×Int) (p:Int):Int:=x.1*1024*1024+x.2.1*p*1024+x.2.2*p*p
def Hi (x:Int×Int×Int) (p:Int):Int×Int:=if p=0 then(0,0) else((lsN x p).tdiv 1048576,(lsN x p+1048576-1).tdiv 1048576)
def J0m:Con:={args:=[aLs,aI],ress:=[tIv],owns:=[],pre:=fun(x,p,_)=>[Jhy x p=0],spec:=fun(x,p,_)=>(Hi x p,())}
theorem Jcl {a b c p:Int} (h:Jhy (a,b,c) p=0):(0≤a∧a≤1000)∧(0≤b∧b≤1000)∧(0≤c∧c≤1000)∧0≤p∧p≤1000:=by
 have h1:=firstS_zero.1 h
 have h2:=firstS_zero.1 (h1 (J0c (a,b,c)) (by simp))
 exact⟨Je.1 (h2 (Jd a 0 1000) (by simp)),Je.1 (h2 (Jd b 0 1000) (by simp)),Je.1 (h2 (Jd c 0 1000) (by simp)),Je.1 (h1 (Jd p 0 1000) (by simp))⟩
theorem Jt1 {b c p:Int} (hb:0≤b∧b≤1000) (hc:0≤c∧c≤1000) (hp:0≤p∧p≤1000):(0≤b*p∧b*p≤1000000)∧(0≤c*p∧c*p≤1000000)∧0≤c*p*p∧c*p*p≤1000000000:=by
 have m:∀{x k:Int},0≤x→x≤k→0≤k→0≤x*p∧x*p≤k*1000:=fun h1 h2 h3=>⟨Int.mul_nonneg h1 hp.1,Int.mul_le_mul h2 hp.2 hp.1 h3⟩
 have m2:=m hc.1 hc.2 (by decide)
 exact⟨m hb.1 hb.2 (by decide),m2,m m2.1 m2.2 (by decide)⟩
def J2g (a b c d:Int):=a*(1024:Int)*1024+b*c*1024+d*c*c
def J6g (a b c d:Int):=J2g a b c d+1048576
def Kg8 (a b c d:Int):=Int.tdiv (J6g a b c d-1) 1048576
theorem Kkx:Ok Tryz.prog 74 J0m:=okW Kj5 Tryz.f74 na fun xx=>by
 obtain⟨⟨(a:Int),(b:Int),(c:Int)⟩,(p:Int),_⟩:=xx
 refine(by kernel_rfl:(Jhy (a,b,c) p=0→Br (p==0) ((0,0)=Hi (a,b,c) p) ((Iw (a*1024)∧Iw (a*(1024:Int)*1024)∧Iw (b*p)∧Iw (b*p*1024)∧Iw (a*(1024:Int)*1024+b*p*1024)∧Iw (c*p)∧Iw (c*p*p)∧Iw (J2g a b p c))∧(((1048576:Int)=0→False)∧Iw (Int.tdiv (J2g a b p c) 1048576)∧Iw (J6g a b p c)∧Iw (J6g a b p c-1)∧((1048576:Int)=0→False)∧Iw (Kg8 a b p c))∧(Int.tdiv (J2g a b p c) 1048576,Kg8 a b p c)=Hi (a,b,c) p))=_).mp ?_
 delta J2g J6g Kg8 Br Iw
 intro h
 obtain⟨ha,hb,hc,hp⟩:=Jcl h
 obtain⟨m1,m2,m3⟩:=Jt1 hb hc hp
 refine⟨fun h0=> ?_,fun h0=> ?_⟩
 ·have h1:p=0:=by simpa using h0
  unfold Hi;rw[if_pos h1]
 ·have h1:¬p=0:=by simpa using h0
  have e:Hi (a,b,c) p=((a*1024*1024+b*p*1024+c*p*p).tdiv 1048576,(a*1024*1024+b*p*1024+c*p*p+1048576-1).tdiv 1048576):=by unfold Hi;rw[if_neg h1];rfl
  have t1:=Int.tdiv_eq_ediv_of_nonneg (a:=a*1024*1024+b*p*1024+c*p*p) (b:=1048576) (by omega)
  have t2:=Int.tdiv_eq_ediv_of_nonneg (a:=a*1024*1024+b*p*1024+c*p*p+1048576-1) (b:=1048576) (by omega)
  rw[e,t1,t2]
  refine⟨?_, ?_,rfl⟩<;>repeat' first|apply And.intro|omega
abbrev Kj4:=Kj5.add Kkx
def J3g (x:Int×Int×Int) (p:Int):Int×Int:=(max 0 (p-(Hi x p).2),max 0 (p-(Hi x p).1))
def J95:Con:={args:=[aLs,aI],ress:=[tIv],owns:=[],pre:=fun(x,p,_)=>[Jhy x p=0],spec:=fun(x,p,_)=>(J3g x p,())}
theorem Jv0 {a b c p:Int} (h:Jhy (a,b,c) p=0):(0≤(Hi (a,b,c) p).1∧(Hi (a,b,c) p).1≤10000)∧0≤(Hi (a,b,c) p).2∧(Hi (a,b,c) p).2≤10000:=by
 obtain⟨ha,hb,hc,hp⟩:=Jcl h
 obtain⟨m1,m2,m3⟩:=Jt1 hb hc hp
 unfold Hi
 split
 ·exact⟨⟨by decide,by decide⟩,by decide,by decide⟩
 ·have e:lsN (a,b,c) p=a*1024*1024+b*p*1024+c*p*p:=rfl
  dsimp only
  rw[Int.tdiv_eq_ediv_of_nonneg (by omega),Int.tdiv_eq_ediv_of_nonneg (by omega)]
  omega
theorem Klj:Ok Tryz.prog 46 J95:=okW Kj4 Tryz.f46 na fun xx=>by
 obtain⟨⟨(a:Int),(b:Int),(c:Int)⟩,(p:Int),_⟩:=xx
 refine(by kernel_rfl:(Jhy (a,b,c) p=0→Jhy (a,b,c) p=0∧(Iw (p-(Hi (a,b,c) p).2)∧Iw (p-(Hi (a,b,c) p).1))∧(max 0 (p-(Hi (a,b,c) p).2),max 0 (p-(Hi (a,b,c) p).1))=J3g (a,b,c) p)=_).mp ?_
 delta Iw
 intro h
 have hp:=(Jcl h).2.2.2
 have hl:=Jv0 h
 exact⟨h,⟨⟨by omega,by omega⟩,by omega,by omega⟩,rfl⟩
abbrev Kj3:=Kj4.add Klj
def Juc (x:Int×Int×Int) (p:Int):(Int×Int)×Int:=if Jhy x p=0 then(J3g x p,0) else((0,0),Jhy x p)
def J94:Con:={args:=[aLs,aI],ress:=[tIv,I],owns:=[],pre:=fun _=>[],spec:=fun(x,p,_)=>((Juc x p).1,(Juc x p).2,())}
theorem Kme:Ok Tryz.prog 14 J94:=okW Kj3 Tryz.f14 na fun xx=>by
 obtain⟨⟨(a:Int),(b:Int),(c:Int)⟩,(p:Int),_⟩:=xx
 refine(by kernel_rfl:(Br (Jhy (a,b,c) p !=0) ((0,0)=(Juc (a,b,c) p).1∧Jhy (a,b,c) p=(Juc (a,b,c) p).2) (Jhy (a,b,c) p=0∧E2 (J3g (a,b,c) p)=(Juc (a,b,c) p).1∧0=(Juc (a,b,c) p).2))=_).mp ?_
 delta Br E2
 refine⟨fun h=> ?_,fun h=> ?_⟩
 ·have h:Jhy (a,b,c) p≠0:=bne_iff_ne.1 h
  unfold Juc;rw[if_neg h];exact⟨rfl,rfl⟩
 ·have h:Jhy (a,b,c) p=0:=bne_eq_false_iff_eq.1 h
  unfold Juc;rw[if_pos h];exact⟨h,rfl,rfl⟩
abbrev J7a:=Kj3.add Kme
abbrev Vq (l:List Ev) (k:ByteArray) (vs:List Int) (ns:List ByteArray):Ev:=((l.length:Int)+1,k,ns,vs,Jz)
def Jmj (l:List Ev) (e:Ev):List Ev:=if Ya l e=0 then l++[e] else l
def Jx9:Yb:={T? :=some 24,s:= .list 67 sEv,args:=[aS, .val false (.list 3 sI), .val false (.list 9 .str)],ress:=[Bo],pre:=fun l (k,vs,ns,_)=>[lOk l,l.length≤900,vs.length≤1000000,ns.length≤1000000,∀s∈ns,s.size≤1000000],spec:=fun l (k,vs,ns,_)=>(Ya l (Vq l k vs ns)==0,()),post:=fun l (k,vs,ns,_)=>Jmj l (Vq l k vs ns)}
def Jxq (a:List Ev) (b:Bt) (c:Ls) (d:Li):=(Ln a+1,b,c,d,B0)
theorem wp6 (l:List Ev) (k:ByteArray) (vs:List Int) (ns:List ByteArray):wpFO Tryz.prog J7a.g (na ()) (fun _=>na ()) (Sx.look ([]:List (Nat×Func))) Tryz.f6 Jx9 24 l (k,vs,ns,()):=by
 refine(by kernel_rfl:(lOk l→List.length l≤900→Z43 vs→Z98 ns→Jc5 ns→Z57 l∧((0+List.length l)*88≤140737488355328∧lOk l∧Dk (Jxq l k ns vs))∧Br (Ya l (Jxq l k ns vs) !=0) (Sf true (Sf 24 (l=Jmj l (Vq l k vs ns)∧false=(Ya l (Vq l k vs ns)==0)))) (Fi l∧Sf true (Sf 24 (l++[Jxq l k ns vs]=Jmj l (Vq l k vs ns)∧true=(Ya l (Vq l k vs ns)==0)))))=_).mp ?_
 delta Z43 Z57 Z98 Jxq Fi Jc8 Jc5 Br Iw Sf Ln B0
 intro h1 h2 h3 h4 h5
 have e:(((l.length:Int)+1,k,ns,vs,{data:={toList:=[]}}):Ev)=Vq l k vs ns:=rfl
 rw[e]
 refine⟨by omega,⟨by omega,h1,h4,h3,h5⟩,fun h=> ?_,fun h=> ?_⟩
 ·have h:Ya l (Vq l k vs ns)≠0:=bne_iff_ne.1 h
  have q:Jmj l (Vq l k vs ns)=l:=by unfold Jmj;rw[if_neg h]
  exact⟨rfl,rfl,q.symm,(beq_eq_false_iff_ne.2 h).symm⟩
 ·have h:Ya l (Vq l k vs ns)=0:=bne_eq_false_iff_eq.1 h
  have q:Jmj l (Vq l k vs ns)=l++[Vq l k vs ns]:=by unfold Jmj;rw[if_pos h]
  exact⟨by omega,rfl,rfl,q.symm,by rw[h];rfl⟩
theorem ok6:Ok Tryz.prog 6 (Yb.con Jx9):=Ye (Ks mixed J7a.ok (by kernel_rfl) (by kernel_rfl) (Un (l:=([]:List (Nat×Func))) (by simp)) (fun xx yy=>na ()) (fun xx yy=>fun _=>na ()) fun T xx yy hT=>by obtain rfl:=hT _ rfl;exact wp6 xx yy.1 yy.2.1 yy.2.2.1)
abbrev Km5:=J7a.add ok6
def Hw:List Ev:=[(1,⟨⟨[115,116,97,116,105,111,110]⟩⟩,[⟨⟨[97]⟩⟩],[0,1000],⟨⟨[]⟩⟩),(2,⟨⟨[115,116,97,116,105,111,110]⟩⟩,[⟨⟨[98]⟩⟩],[0,1000],⟨⟨[]⟩⟩),(3,⟨⟨[112,114,105,99,101]⟩⟩,[⟨⟨[97]⟩⟩],[0,5],⟨⟨[]⟩⟩),(4,⟨⟨[111,114,100,101,114]⟩⟩,[⟨⟨[111]⟩⟩,⟨⟨[97]⟩⟩,⟨⟨[98]⟩⟩],[0,1,2,64],⟨⟨[]⟩⟩),(5,⟨⟨[109,101,116,101,114]⟩⟩,[⟨⟨[111]⟩⟩],[2,1,64,60],⟨⟨[]⟩⟩),(6,⟨⟨[115,101,116,116,108,101]⟩⟩,[],[2,2],⟨⟨[]⟩⟩)]
theorem Jz6:∀n,n<6→Ya (Hw.take n) (Hw.getD n ev0)=0:=fun n h=>by
 have:((List.range 6).all fun n=>Ya (Hw.take n) (Hw.getD n ev0)==0)=true:=by kernel_rfl
 exact eq_of_beq (List.all_eq_true.1 this n (List.mem_range.2 h))
theorem Jt9:∀e∈Hw,Dk e:=fun e he=>by
 have:(Hw.all fun e=>decide (e.2.2.1.length≤1000000)&&decide (e.2.2.2.1.length≤1000000)&&e.2.2.1.all fun s=>decide (s.size≤1000000))=true:=by kernel_rfl
 have h:=List.all_eq_true.1 this e he
 simp only[Bool.and_eq_true] at h
 exact⟨of_decide_eq_true h.1.1,of_decide_eq_true h.1.2,fun s hs=>of_decide_eq_true (List.all_eq_true.1 h.2 s hs)⟩
theorem Jfm:Hw.length=6:=by kernel_rfl
theorem Jpm (n:Nat):lOk (Hw.take n):=⟨by have:=Jfm;rw[List.length_take];omega,fun e he=>Jt9 e (List.mem_of_mem_take he)⟩
theorem Jez {f:FuncId} {c:Yb} {p:c.s.T→ATup c.args→List Prop} {sp:c.s.T→ATup c.args→Tup c.ress} {q:c.s.T→ATup c.args→c.s.T} (h1:OkO Tryz.prog f c) (h:∀x y,Kq (p x y)→Kq (c.pre x y)∧sp x y=c.spec x y∧q x y=c.post x y):OkO Tryz.prog f {c with pre:=p,spec:=sp,post:=q}:=
 ⟨h1.1,fun x y M R B w b T cells vals vs hB hMR hg hw hBb hMb hRb hT ho hv hpre ha=>by
  obtain⟨hp,e1,e2⟩:=h x y hpre
  have H:=h1.2 x y M R B w b T cells vals vs hB hMR hg hw hBb hMb hRb hT ho hv hp ha
  dsimp only
  rw[e1,e2]
  exact H⟩
def Kmt:Yb:={T? :=some 24,s:= .list 67 sEv,args:=[aS, .val false (.list 3 sI), .val false (.list 9 .str)],ress:=[Bo],pre:=fun l (k,vs,ns,_)=>[l=Hw.take l.length,l.length<6,Vq l k vs ns=Hw.getD l.length ev0],spec:=fun _ _=>(true,()),post:=fun l _=>Hw.take (l.length+1)}
theorem Jvm:OkO Tryz.prog 6 Jx9:=Ks mixed J7a.ok (by kernel_rfl) (by kernel_rfl) (Un (l:=([]:List (Nat×Func))) (by simp)) (fun xx yy=>na ()) (fun xx yy=>fun _=>na ()) fun T xx yy hT=>by obtain rfl:=hT _ rfl;exact wp6 xx yy.1 yy.2.1 yy.2.2.1
theorem J76:Ok Tryz.prog 6 (Yb.con Kmt):=Ye (Jez (c:=Jx9) Jvm fun x y hp=>by
 obtain⟨l1,l2,l3⟩:=hp
 obtain⟨k,vs,ns,_⟩:=y
 have l3:Vq x k vs ns=Hw.getD x.length ev0:=l3
 have hn:x.length<6:=l2
 have l1:x=Hw.take x.length:=l1
 generalize x.length=n at l1 l2 l3 hn
 subst l1
 have ha:Ya (Hw.take n) (Vq (Hw.take n) k vs ns)=0:=by rw[l3];exact Jz6 n hn
 have hz:Dk (Vq (Hw.take n) k vs ns):=by rw[l3];exact Jt9 _ (Jf (d:=ev0) (by rw[Jfm];exact hn))
 have hl:(Hw.take n).length=n:=by rw[List.length_take,Jfm];omega
 refine⟨⟨Jpm n,by show(Hw.take n).length≤900;omega,hz.2.1,hz.1,hz.2.2⟩, ?_, ?_⟩
 ·show(true,())=(Ya _ _==0,())
  rw[ha];rfl
 ·show Hw.take (n+1)=Jmj (Hw.take n) (Vq (Hw.take n) k vs ns)
  unfold Jmj
  rw[if_pos ha,l3]
  exact(Ys (d:=ev0) (by rw[Jfm];exact hn)).symm)
abbrev Kj2:=Km5.add J76
abbrev sPt:Sch:= .prod sI sI
abbrev aP:AK:= .val true sPt
def Ji7:Con:={args:=[aI],ress:=[I],owns:=[],pre:=fun _=>[],spec:=fun(n,_)=>(Jd n (-1000) 1000,())}
def Z67:=(-1000)
theorem Kl2:Ok Tryz.prog 27 Ji7:=okW Kj2 Tryz.f27 na fun xx=>by
 obtain⟨(n:Int),_⟩:=xx
 refine(by kernel_rfl:(Jd n Z67 1000=Jd n Z67 1000)=_).mp ?_
 delta Z67
 rfl
abbrev Ki2:=Kj2.add Kl2
theorem Joo {a b A B:Int} (ha: -A≤a∧a≤A) (hb: -B≤b∧b≤B): -(A*B)≤a*b∧a*b≤A*B:=by
 have h1:(a*b).natAbs≤A.natAbs*B.natAbs:=by rw[Int.natAbs_mul];exact Nat.mul_le_mul (by omega) (by omega)
 have h2:((A.natAbs*B.natAbs:Nat):Int)=A*B:=by
  rw[Int.natCast_mul]
  congr 1<;>omega
 omega
def idxSF {α:Type} (f:α→Bool):List α→Int→Int
 |[],_=> -1
 |x::l,k=>if f x=true then k else idxSF f l (k+1)
abbrev Jqw (T:TypeId) (s:Sch) (l:List s.T) (ps:List (Bool×Sch)) (r:Bool×Sch) (q:Tup ps→List Prop) (f:Tup ps→r.2.T) (J:Nat→Prop):Ann:={X:=Nat,σ:=fun k=>⟨2,[(0, .one (.sl 0)),(1, .one (.fv 1)),(7, .one (.int .i64 l.length)),(8, .one (.int .i64 k))],[(0, .imm T s l),(1, .afn ps r q f)]⟩,inv:=fun k=>k≤l.length∧J k,mu:=fun k=>l.length-k}
theorem Jd8 {α:Type} {f:α→Bool} {l:List α} {k:Nat} {d:α} (h:k<l.length):idxSF f (l.drop k) k=if f (l.getD k d)=true then(k:Int) else idxSF f (l.drop (k+1)) (k+1:Nat):=by
 rw[List.drop_eq_getElem_cons h]
 simp[idxSF,List.getD_eq_getElem?_getD,h]
theorem Jo9 {α:Type} {f:α→Bool}:∀{l:List α} {k:Nat},idxSF f l k= -1∨(k≤idxSF f l k∧idxSF f l k<k+l.length)
 |[],_=> .inl rfl
 | x :: l, k => by
  simp only[idxSF]
  split
  ·exact .inr ⟨Int.le_refl _,by simp;omega⟩
  ·rcases Jo9 (f:=f) (l:=l) (k:=k+1) with h|h
   ·exact .inl h
   ·refine .inr ⟨by simp at h;omega,by simp at h⊢;omega⟩
abbrev aL (T:TypeId):AK:= .val false (.list T sPt)
theorem Dp {α:Type} {l:List α} {k:Nat} {d:α} (h:k<l.length):l.take k++[l.getD k d]=l.take (k+1):=by
 rw[List.take_succ_eq_append_getElem h]
 simp[List.getD_eq_getElem?_getD,h]
abbrev s3:Sch:= .prod sI (.prod sI sI)
abbrev a3:AK:= .val true s3
theorem Up {n lo hi:Int} (h:Jd n lo hi=0):lo≤n∧n≤hi:=by
 unfold Jd at h
 by_cases h1:n<lo
 ·simp[h1] at h
 ·by_cases h2:hi<n
  ·simp[h1,h2] at h
  ·omega
theorem J5 {x:Int} {l:List Int}:Ja (x::l)=0↔x=0∧Ja l=0:=by
 simp only[Ja]
 by_cases h:x=0<;>simp[h]
def Jgn (x:Int×Int×Int):Int:=Ja [Jd x.1 1 1000,Jd x.2.1 (-1000) 1000,Jd x.2.2 (-1000) 1000,bif decide (x.2.2<x.2.1) then 11 else 0]
def Jug:Con:={args:=[a3],ress:=[I],owns:=[],pre:=fun _=>[],spec:=fun(x,_)=>(Jgn x,())}
theorem Kkd (x:Int×Int×Int):wpF Tryz.prog Ki2.g (na ()) Tryz.f59 Jug (x,()):=by
 refine(by kernel_rfl:(4≤1000000∧Ja [Jd x.1 1 1000,Jd x.2.1 Z67 1000,Jd x.2.2 Z67 1000,bif decide (x.2.2<x.2.1) then 11 else 0]=Jgn x)=_).mp ?_
 delta Z67
 exact⟨by omega,rfl⟩
theorem Klb:Ok Tryz.prog 59 Jug:=Ke mixed Ki2.ok (by kernel_rfl) (by kernel_rfl) na fun xx=>Kkd xx.1
abbrev Kj1:=Ki2.add Klb
def K9:List (Int×Int)→Int→Int
 |[],_=>0
 |p::r,last=>let e:=Ja [Jd p.1 0 100000,Jd p.2 (-1000) 1000,bif decide (p.1≤last) then 11 else 0]
  if e≠0 then e else K9 r p.1
def Kk (l:List (Int×Int)):Int:=if 32<l.length then 5 else K9 l (-1)
def K2 (l:List (Int×Int)) (k:Nat):Int:=if k=0 then -1 else(l.getD (k-1) (0,0)).1
theorem Zf {l:List (Int×Int)} {k:Nat} (h:k<l.length):K9 (l.drop k) (K2 l k)=(let p:=l.getD k (0,0)
  let e:=Ja [Jd p.1 0 100000,Jd p.2 (-1000) 1000,bif decide (p.1≤K2 l k) then 11 else 0]
  if e≠0 then e else K9 (l.drop (k+1)) (K2 l (k+1))):=by
 rw[List.drop_eq_getElem_cons h]
 have e1:l.getD k (0,0)=l[k]:=by simp[List.getD_eq_getElem?_getD,h]
 have e2:K2 l (k+1)=l[k].1:=by simp[K2,List.getD_eq_getElem?_getD,h]
 simp only[K9,e1,e2]
def Jwm:Con:={args:=[aL 31],ress:=[I],owns:=[],pre:=fun _=>[],spec:=fun(l,_)=>(Kk l,())}
abbrev Jqt (l:List (Int×Int)):Ann:={X:=Nat,σ:=fun k=>⟨1,[(3, .one (.int .i64 (K2 l k))),(10, .one (.sl 0)),(11, .one (.int .i64 l.length)),(12, .one (.int .i64 k))],[(0, .imm 31 sPt l)]⟩,inv:=fun k=>k≤l.length∧l.length≤32∧K9 l (-1)=K9 (l.drop k) (K2 l k),mu:=fun k=>l.length-k}
def Z3 (a:List (Int×Int)):=Ln a
def Z37 (a:List (Int×Int)):=List.length a
def Z90 (a:Nat) (b:List (Int×Int)):=a≤Z37 b
def Juy (a:Nat) (b:List (Int×Int)):=decide (Nc a<Z3 b)
def Jxo (a:List (Int×Int)) (b:Nat):=List.getD a b (0,0)
def Jxn (a:List (Int×Int)) (b:Nat):=(Jxo a b).1
def J2x (a:List (Int×Int)) (b:Nat):=(Jxo a b).2
def Jyr (a:List (Int×Int)) (b c:Nat):=Z37 a-b<Z37 a-c
def J4n (a:Nat) (b:List (Int×Int)):=Z90 a b∧Z37 b≤32∧K9 b Z61=K9 (List.drop a b) (K2 b a)
def Kdv (a:List (Int×Int)) (b:Nat):=Ja [Jd (Jxn a b) 0 100000,Jd (J2x a b) Z67 1000,bif decide (Jxn a b≤K2 a b) then 11 else 0]
theorem Kl8 : Ok Tryz.prog 20 Jwm := okW Kj1 Tryz.f20 (fun xx => Dl (Jqt xx.1)) fun xx => by
  obtain⟨(l:List (Int×Int)),_⟩:=xx
  refine(by kernel_rfl:(Br (decide (32<Z3 l)) (5=Kk l) (∃(x:Nat),(Z61=K2 l x∧Si (Z3 l) (0=Nc x∧l=l))∧J4n x l∧∀(x:Nat),J4n x l→Br (Juy x l) (Tw (Bd (Nc x) (Z3 l))∧3≤1000000∧Br (Kdv l x !=0) (Kdv l x=Kk l) (Z20 x∧∃(y:Nat),(Jxn l x=K2 l y∧Si (Z3 l) (Z83 x y∧l=l))∧J4n y l∧Jyr l y x)) (0=Kk l)))=_).mp ?_
  delta Z3 Z20 Z37 Z61 Z67 Z83 Z90 Juy Jxo Jxn J2x Jyr J4n Kdv Br Iw Bd Tw Si Ln Nc
  refine⟨fun h=> ?_,fun h=> ?_⟩
  · have h2 : 32 < l.length := by have : 32 < (l.length : Int) := by simpa using h
                                  omega
    simp[Kk,h2]
  · have h2 : ¬ 32 < l.length := by have : ¬ 32 < (l.length : Int) := by simpa using h
                                    omega
    have hS:Kk l=K9 l (-1):=by simp[Kk,h2]
    refine⟨(0:Nat),⟨rfl,rfl,rfl,rfl⟩,⟨Nat.zero_le _,by omega,rfl⟩,fun(k:Nat) hk=>⟨fun h=> ?_,fun h=> ?_⟩⟩
    · have hlt : k < l.length := by simpa using h
      have hd:=Zf hlt
      simp only at hd
      rw[hS,hk.2.2,hd]
      refine⟨by omega,by omega,fun h3=> ?_,fun h3=>⟨by omega,(k+1:Nat),⟨by simp[K2],rfl,by simp,rfl⟩,⟨by omega,by omega, ?_⟩,by omega⟩⟩
      ·rw[if_pos (by simpa using h3)]
      ·rw[if_neg (by simpa using h3)]
    · have hlt : ¬ k < l.length := by simpa using h
      have e:k=l.length:=by omega
      rw[hS,hk.2.2,e,List.drop_length];rfl
abbrev Kj0:=Kj1.add Kl8
def Xc (t:Int):List (Int×Int)→Int→Int
 |[],p=>p
 |x::r,p=>Xc t r (if x.1≤t then x.2 else p)
def Zv (l:List (Int×Int)) (t:Int):Int:=Xc t l 0
def J03 (T:TypeId):Con:={args:=[aL T,aI],ress:=[I],owns:=[],pre:=fun(l,_,_)=>[l.length≤1000000],spec:=fun(l,t,_)=>(Zv l t,())}
abbrev Jtf (l:List (Int×Int)) (t:Int):Ann:={X:=Nat×Int,σ:=fun(k,p)=>⟨1,[(1, .one (.int .i64 t)),(5, .one (.int .i64 p)),(8, .one (.sl 0)),(9, .one (.int .i64 l.length)),(10, .one (.int .i64 k))],[(0, .imm 31 sPt l)]⟩,inv:=fun(k,p)=>k≤l.length∧Zv l t=Xc t (l.drop k) p,mu:=fun(k,_)=>l.length-k}
theorem Jhs {l:List (Int×Int)} {k:Nat} {t p:Int} (h:k<l.length):Xc t (l.drop k) p=Xc t (l.drop (k+1)) (if(l.getD k (0,0)).1≤t then(l.getD k (0,0)).2 else p):=by
 have e1:l.getD k (0,0)=l[k]:=by simp[List.getD_eq_getElem?_getD,h]
 rw[List.drop_eq_getElem_cons h,e1]
 rfl
def Jmz (a:List (Int×Int)):=Z37 a≤1000000
def J5q (a:Nat×Int) (b:List (Int×Int)) (c:Int):=a.1≤Z37 b∧Zv b c=Xc c (List.drop a.1 b) a.2
def Kes (a:Nat×Int) (b:List (Int×Int)) (c:Int) (d:Nat×Int):=J5q a b c∧Z37 b-a.1<Z37 b-d.1
theorem Kl6:Ok Tryz.prog 22 (J03 31):=okW Kj0 Tryz.f22 (fun xx=>Dl (Jtf xx.1 xx.2.1)) fun xx=>by
 obtain⟨(l:List (Int×Int)),(t:Int),_⟩:=xx
 refine(by kernel_rfl:(Jmz l→∃(x:Nat×Int),Si t (0=x.2∧Si (Z3 l) (0=Nc x.1∧l=l))∧J5q x l t∧∀(x:Nat×Int),J5q x l t→Br (decide (Nc x.1<Z3 l)) (Tw (Bd (Nc x.1) (Z3 l))∧Br (decide ((List.getD l x.1 (0,0)).1≤t)) (Z38 x∧∃(y:Nat×Int),Si t ((List.getD l x.1 (0,0)).2=y.2∧Si (Z3 l) (Jtl x y∧l=l))∧Kes y l t x) (Z38 x∧∃(y:Nat×Int),Si t (x.2=y.2∧Si (Z3 l) (Jtl x y∧l=l))∧Kes y l t x)) (x.2=Zv l t))=_).mp ?_
 delta Z3 Z37 Z38 Jtl Jmz J5q Kes Br Iw Bd Tw Si Ln Nc
 intro hb
 refine⟨(0,0),by(repeat' first|exact rfl|apply And.intro),⟨Nat.zero_le _,rfl⟩,fun(x:Nat×Int) hx=>⟨fun h=> ?_,fun h=> ?_⟩⟩
 ·obtain⟨k,p⟩:=x
  obtain⟨i1,i2⟩:=hx
  dsimp only at*
  have hlt:k<l.length:=by simpa using h
  have hd:=Jhs (t:=t) (p:=p) hlt
  refine⟨by omega,fun h1=>⟨by omega,(k+1,(l.getD k (0,0)).2),by simp,⟨by show k+1≤l.length;omega, ?_⟩,by show l.length-(k+1)<l.length-k;omega⟩,fun h1=>⟨by omega,(k+1,p),by simp,⟨by show k+1≤l.length;omega, ?_⟩,by show l.length-(k+1)<l.length-k;omega⟩⟩
  ·rw[i2,hd,if_pos (by simpa using h1)]
  ·rw[i2,hd,if_neg (by simpa using h1)]
 ·obtain⟨k,p⟩:=x
  obtain⟨i1,i2⟩:=hx
  dsimp only at*
  have hlt:¬k<l.length:=by simpa using h
  have e:k=l.length:=by omega
  rw[i2,e,List.drop_length];rfl
abbrev Ki1:=Kj0.add Kl6
def Jeu (x:Int×Int×Int) (fr:Int) (l:List (Int×Int)):Int:=Ja [Jgn x,Jd fr x.2.1 x.2.2,Kk l]
def Jee:Con:={args:=[a3,aI,aL 31],ress:=[I],owns:=[],pre:=fun _=>[],spec:=fun(x,fr,l,_)=>(Jeu x fr l,())}
def Z19 (a:Int×Int×Int):=(a.1,E2 a.2)
theorem Kki (x:Int×Int×Int) (fr:Int) (l:List (Int×Int)):wpF Tryz.prog Ki1.g (na ()) Tryz.f29 Jee (x,fr,l,()):=by
 refine(by kernel_rfl:(3≤1000000∧Ja [Jgn (Z19 x),Jd fr x.2.1 x.2.2,Kk l]=Jeu x fr l)=_).mp ?_
 delta Z19 E2
 exact⟨by omega,rfl⟩
theorem Kl0:Ok Tryz.prog 29 Jee:=Ke mixed Ki1.ok (by kernel_rfl) (by kernel_rfl) na fun xx=>Kki xx.1 xx.2.1 xx.2.2.1
abbrev Ki0:=Ki1.add Kl0
abbrev sSt:Sch:= .prod sPt sPt
abbrev aSt:AK:= .val true sSt
abbrev StT:=(Int×Int)×Int×Int
def Hc (s:StT):Prop:=(0≤s.1.1∧s.1.1≤100000)∧(-1000≤s.1.2∧s.1.2≤1000)∧(-1000≤s.2.1∧s.2.1≤1000)∧(0≤s.2.2∧s.2.2≤100000)
def Jcn (s:StT):Int:=max (s.1.2-s.2.1) (s.2.1-s.1.2)
def Jqi:Con:={args:=[aSt],ress:=[I],owns:=[],pre:=fun(s,_)=>[Hc s],spec:=fun(s,_)=>(Jcn s,())}
theorem Kkc (s:StT):wpF Tryz.prog Ki0.g (na ()) Tryz.f60 Jqi (s,()):=by
 refine(by kernel_rfl:(Hc s→(Iw (s.1.2-s.2.1)∧Iw (s.2.1-s.1.2))∧max (s.1.2-s.2.1) (s.2.1-s.1.2)=Jcn s)=_).mp ?_
 delta Iw
 intro h
 obtain⟨h1,h2,h3,h4⟩:=h
 exact⟨⟨⟨by omega,by omega⟩,by omega,by omega⟩,rfl⟩
theorem Kla:Ok Tryz.prog 60 Jqi:=Ke mixed Ki0.ok (by kernel_rfl) (by kernel_rfl) na fun xx=>Kkc xx.1
abbrev Kiz:=Ki0.add Kla
def Jj0 (x:Int×Int×Int):Prop:=(1≤x.1∧x.1≤1000)∧(-1000≤x.2.1∧x.2.1≤1000)∧(-1000≤x.2.2∧x.2.2≤1000)
def Ze (x:Int×Int×Int) (s:StT):Int:=Ja [bif decide (s.1.2<x.2.1)||decide (x.2.2<s.1.2) then 30 else 0,bif decide (x.1*(s.1.1-s.2.2)<Jcn s) then 21 else 0]
def Jp4:Con:={args:=[a3,aSt],ress:=[I],owns:=[],pre:=fun(x,s,_)=>[Jj0 x,Hc s],spec:=fun(x,s,_)=>(Ze x s,())}
theorem Kkh (x:Int×Int×Int) (s:StT):wpF Tryz.prog Kiz.g (na ()) Tryz.f33 Jp4 (x,s,()):=by
 refine(by kernel_rfl:(Jj0 x→Hc s→(Hc (E2 s.1,E2 s.2)∧Iw (s.1.1-s.2.2)∧Iw (x.1*(s.1.1-s.2.2))∧2≤1000000)∧Ja [bif bif decide (s.1.2<x.2.1) then true else decide (x.2.2<s.1.2) then 30 else 0,bif decide (x.1*(s.1.1-s.2.2)<Jcn (E2 s.1,E2 s.2)) then 21 else 0]=Ze x s)=_).mp ?_
 delta Iw E2
 intro hx hs
 have h1:=hs.1
 have h4:=hs.2.2.2
 have m:=Joo (a:=x.1) (b:=s.1.1-s.2.2) (A:=1000) (B:=100000) ⟨by have:=hx.1;omega,hx.1.2⟩ ⟨by omega,by omega⟩
 refine⟨⟨hs,⟨by omega,by omega⟩,⟨by omega,by omega⟩,by omega⟩, ?_⟩
 unfold Ze
 cases decide (s.1.2<x.2.1)<;>rfl
theorem Klw:Ok Tryz.prog 33 Jp4:=Ke mixed Kiz.ok (by kernel_rfl) (by kernel_rfl) na fun xx=>Kkh xx.1 xx.2.1
abbrev Kiy:=Kiz.add Klw
def Juh:Con:={args:=[aSt, .ref 3 sI],ress:=[Bo],owns:=[],pre:=fun _=>[],spec:=fun(s,t,_)=>(decide (t≤s.1.1),())}
theorem Kkg (s:StT) (t:Int):wpF Tryz.prog Kiy.g (na ()) Tryz.f35 Juh (s,t,()):=by
 refine(by kernel_rfl:(decide (t≤s.1.1)=decide (t≤s.1.1))=_).mp ?_
 rfl
theorem Klu:Ok Tryz.prog 35 Juh:=Ke mixed Kiy.ok (by kernel_rfl) (by kernel_rfl) na fun xx=>Kkg xx.1 xx.2.1
abbrev Kix:=Kiy.add Klu
def Hd (s:StT) (rate t:Int):Int:=bif decide (s.2.1<s.1.2) then max s.2.1 (s.1.2-rate*(s.1.1-t)) else min s.2.1 (s.1.2+rate*(s.1.1-t))
def Jp3:Con:={args:=[aSt,aI,aI],ress:=[I],owns:=[],pre:=fun(s,rate,t,_)=>[Hc s,1≤rate∧rate≤1000,0≤t∧t≤100000],spec:=fun(s,rate,t,_)=>(Hd s rate t,())}
theorem Kkf (s:StT) (rate t:Int):wpF Tryz.prog Kix.g (na ()) Tryz.f36 Jp3 (s,rate,t,()):=by
 refine(by kernel_rfl:(Hc s→1≤rate∧rate≤1000→0≤t∧t≤100000→(Iw (s.1.1-t)∧Iw (rate*(s.1.1-t)))∧Br (decide (s.2.1<s.1.2)) (Iw (s.1.2-rate*(s.1.1-t))∧max s.2.1 (s.1.2-rate*(s.1.1-t))=Hd s rate t) (Iw (s.1.2+rate*(s.1.1-t))∧min s.2.1 (s.1.2+rate*(s.1.1-t))=Hd s rate t))=_).mp ?_
 delta Br Iw
 intro hs hr ht
 obtain⟨h1,h2,h3,h4⟩:=hs
 have m:=Joo (a:=rate) (b:=s.1.1-t) (A:=1000) (B:=100000) ⟨by omega,hr.2⟩ ⟨by omega,by omega⟩
 unfold Hd
 generalize rate*(s.1.1-t)=u at*
 refine⟨⟨⟨by omega,by omega⟩,by omega,by omega⟩,fun h=>⟨⟨by omega,by omega⟩, ?_⟩,fun h=>⟨⟨by omega,by omega⟩, ?_⟩⟩
 ·rw[h];rfl
 ·rw[h];rfl
theorem Klt:Ok Tryz.prog 36 Jp3:=Ke mixed Kix.ok (by kernel_rfl) (by kernel_rfl) na fun xx=>Kkf xx.1 xx.2.1 xx.2.2.1
abbrev Kjz:=Kix.add Klt
def Vy:List (Int×Int)→Int×Int→List StT
 |[],_=>[]
 |x::r,last=>(x,last.2,last.1)::Vy r x
def Jw (fr:Int) (l:List (Int×Int)):List StT:=Vy l (0,fr)
def J0f:Con:={args:=[aI,aL 31],ress:=[(false, .list 89 sSt)],owns:=[true],pre:=fun(_,l,_)=>[l.length≤1000],spec:=fun(fr,l,_)=>(Jw fr l,())}
abbrev Jtc (fr:Int) (l:List (Int×Int)):Ann:={X:=Nat×(Int×Int)×List StT,σ:=fun(k,q,o)=>⟨3,[(5, .one (.sl 2)),(6, .one (.ptr 1 0)),(11, .one (.sl 0)),(12, .one (.int .i64 l.length)),(13, .one (.int .i64 k))],[(0, .imm 31 sPt l),(1, .box 31 [.int .i64 q.1, .int .i64 q.2]),(2, .own 89 sSt o)]⟩,inv:=fun(k,q,o)=>k≤l.length∧l.length≤1000∧o.length=k∧Jw fr l=o++Vy (l.drop k) q,mu:=fun(k,_)=>l.length-k}
def Jro (a:List (Int×Int)):=Z37 a≤1000
def J67 (a:List (Int×Int)) (b:Nat×(Int×Int)×List StT):=List.getD a b.1 (0,0)
def Kep (a:Nat×(Int×Int)×List ((Int×Int)×Int×Int)) (b:List (Int×Int)) (c:Int):=a.1≤Z37 b∧Jro b∧List.length a.2.2=a.1∧Jw c b=a.2.2++Vy (List.drop a.1 b) a.2.1
theorem Kly:Ok Tryz.prog 31 J0f:=okW Kjz Tryz.f31 (fun xx=>Dl (Jtc xx.1 xx.2.1)) fun xx=>by
 obtain⟨(fr:Int),(l:List (Int×Int)),_⟩:=xx
 refine(by kernel_rfl:(Jro l→∃(x:Nat×(Int×Int)×List ((Int×Int)×Int×Int)),Si (Z3 l) (0=Nc x.1∧Sf l (0=x.2.1.1∧fr=x.2.1.2∧List.length x.2.2=0))∧Kep x l fr∧∀(x:Nat×(Int×Int)×List StT),x.1≤Z37 l∧Jro l∧List.length x.2.2=x.1∧Jw fr l=x.2.2++Vy (List.drop x.1 l) x.2.1→Br (decide (Nc x.1<Z3 l)) (Tw (Bd (Nc x.1) (Z3 l))∧(List.length x.2.2+1)*32≤140737488355328∧Iw (Nc x.1+1)∧∃(y:Nat×(Int×Int)×List ((Int×Int)×Int×Int)),Si (Z3 l) (Nc x.1+1=Nc y.1∧Sf l ((J67 l x).1=y.2.1.1∧(J67 l x).2=y.2.1.2∧x.2.2++[(E2 (J67 l x),x.2.1.2,x.2.1.1)]=y.2.2))∧Kep y l fr∧Z37 l-y.1<Z37 l-x.1) (x.2.2=Jw fr l))=_).mp ?_
 delta Z3 Z37 Jro J67 Kep Br Iw Bd Tw Sf Si Ln Nc E2
 intro hb
 refine⟨(0,(0,fr),[]),by simp,⟨Nat.zero_le _,hb,rfl,rfl⟩,fun(y:Nat×(Int×Int)×List StT) hy=>⟨fun h=> ?_,fun h=> ?_⟩⟩
 ·obtain⟨k,q,o⟩:=y
  obtain⟨i1,i2,i3,i4⟩:=hy
  dsimp only at i1 i3 i4⊢
  have hlt:k<l.length:=by simpa using h
  have hd:Vy (l.drop k) q=(l.getD k (0,0),q.2,q.1)::Vy (l.drop (k+1)) (l.getD k (0,0)):=by
   have e1:l.getD k (0,0)=l[k]:=by simp[List.getD_eq_getElem?_getD,hlt]
   rw[List.drop_eq_getElem_cons hlt,e1];rfl
  refine⟨⟨⟨by omega,by omega⟩,by omega,by omega⟩,by omega,⟨by omega,by omega⟩,(k+1,l.getD k (0,0),o++[(l.getD k (0,0),q.2,q.1)]),⟨rfl,by simp,rfl,rfl,rfl,rfl⟩,⟨by show k+1≤l.length;omega,i2,by simp[i3], ?_⟩,by show l.length-(k+1)<l.length-k;omega⟩
  rw[i4,hd];simp
 ·obtain⟨k,q,o⟩:=y
  obtain⟨i1,i2,i3,i4⟩:=hy
  dsimp only at i1 i3 i4⊢
  have hlt:¬k<l.length:=by simpa using h
  have e:k=l.length:=by omega
  rw[i4,e,List.drop_length];simp[Vy]
abbrev Kjy:=Kjz.add Kly
abbrev Jp7:Con:={args:=[.val false (.list 89 sSt), .fn [(true,sSt)] Bo],ress:=[I],owns:=[],pre:=fun(l,(q,_),_)=>[l.length≤1000000,∀x∈l,Kq (q (x,()))],spec:=fun(l,(_,f),_)=>(idxSF (fun x=>f (x,())) l 0,())}
def Jza:=(((0:Int),(0:Int)),(0:Int),(0:Int))
def Jy1 (a:List StT):=List.length a
def Jyu (a:Nat) (b:List StT):=a≤Jy1 b
def J6u (a:List StT):=Jy1 a≤1000000
def Kik (a:StT×Unit→Bool) (b:List StT):=idxSF (fun(x:(Int×Int)×Int×Int)=>a (x,PUnit.unit)) b 0
def J51 (a:List StT) (b:Nat):=List.getD a b Jza
def J5k (a:List StT) (b c:Nat):=Jy1 a-b<Jy1 a-c
def J4r (a:Nat) (b:List StT) (c:StT×Unit→Bool):=Jyu a b∧idxSF (fun(x:StT)=>c (x,PUnit.unit)) b 0=idxSF (fun(x:StT)=>c (x,PUnit.unit)) (List.drop a b) (Nc a)
def J4e (a:List StT) (b:StT×Unit→List Prop):=∀(x:(Int×Int)×Int×Int),x∈a→Kq (b (x,PUnit.unit))
def J1p (a:List StT) (b:Nat):=((E2 (J51 a b).1,E2 (J51 a b).2),PUnit.unit)
def J4a (a:StT×Unit→List Prop) (b:List StT) (c:Nat):=Kq (a (J1p b c))
theorem Klv:Ok Tryz.prog 34 Jp7:=okW Kjy Tryz.f34 (fun xx=>Dl (Jqw 89 sSt xx.1 [(true,sSt)] Bo xx.2.1.1 xx.2.1.2 fun k=>idxSF (fun x=>xx.2.1.2 (x,())) xx.1 0=idxSF (fun x=>xx.2.1.2 (x,())) (xx.1.drop k) k)) fun xx=>by
 obtain⟨(l:List StT),⟨(q:StT×Unit→List Prop),(f:StT×Unit→Bool)⟩,_⟩:=xx
 refine(by kernel_rfl:(J6u l→J4e l q→∃(x:Nat),Si (Ln l) (0=Nc x∧Sf l ((fun(x:((Int×Int)×Int×Int)×PUnit)=>q x)=q∧(fun(x:((Int×Int)×Int×Int)×PUnit)=>f x)=f))∧J4r x l f∧∀(x:Nat),J4r x l f→Br (decide (Nc x<Ln l)) (T2 (Bd (Nc x) (Ln l)) (J4a q l x)∧Br (f (J1p l x)) (Nc x=Kik f l) (Z20 x∧∃(y:Nat),Si (Ln l) (Z83 x y∧Sf l ((fun(x:((Int×Int)×Int×Int)×PUnit)=>q x)=q∧(fun(x:((Int×Int)×Int×Int)×PUnit)=>f x)=f))∧J4r y l f∧J5k l y x)) (Z61=Kik f l))=_).mp ?_
 delta Z20 Z61 Z83 Jza Jy1 Jyu J6u Kik J51 J5k J4r J4e J1p J4a Br Iw Bd T2 Sf Si Ln Nc E2
 intro hb hq
 refine⟨(0:Nat),⟨rfl,rfl,rfl,rfl,rfl⟩,⟨Nat.zero_le _,rfl⟩,fun(k:Nat) hk=>⟨fun h=> ?_,fun h=> ?_⟩⟩
 ·have hlt:k<l.length:=by simpa using h
  have hd:=Jd8 (f:=fun x=>f (x,())) (d:=((0,0),0,0)) hlt
  refine⟨⟨by omega,by omega,hq _ (Jf hlt)⟩,fun h1=> ?_,fun h1=>⟨by omega,(k+1:Nat),⟨rfl,by simp,rfl,rfl,rfl⟩,⟨by omega, ?_⟩,by omega⟩⟩
  ·rw[hk.2,hd,if_pos h1]
  ·rw[hk.2,hd,if_neg (by rw[show f (l.getD k ((0,0),0,0),())=false from h1];simp)]
 ·have hlt:¬k<l.length:=by simpa using h
  have:k=l.length:=by omega
  rw[hk.2,this,List.drop_length];rfl
abbrev Kjx:=Kjy.add Klv
def Jp6:Con:={args:=[.val false (.list 89 sSt), .fn [(true,sSt)] I],ress:=[(false, .list 35 sI)],owns:=[true],pre:=fun(l,(q,_),_)=>[l.length≤1000000,∀x∈l,Kq (q (x,()))],spec:=fun(l,(_,f),_)=>(l.map fun x=>f (x,()),())}
def J15 (a:StT×Unit→Int) (b:Nat) (c:List StT):=List.map (fun(x:(Int×Int)×Int×Int)=>a (x,PUnit.unit)) (List.take b c)
def Ke7 (a:StT×Unit→Int) (b:Nat) (c:List StT):=List.length (J15 a b c)
theorem Klx:Ok Tryz.prog 32 Jp6:=okW Kjx Tryz.f32 (fun xx=>Dl (Jk9 89 35 sSt xx.1 I true xx.2.1.1 xx.2.1.2)) fun xx=>by
 obtain⟨(l:List StT),⟨(q:StT×Unit→List Prop),(f:StT×Unit→Int)⟩,_⟩:=xx
 refine(by kernel_rfl:(J6u l→J4e l q→∃(x:Nat),Si (Ln l) (0=Nc x∧Sf l ((fun(x:((Int×Int)×Int×Int)×PUnit)=>q x)=q∧(fun(x:((Int×Int)×Int×Int)×PUnit)=>f x)=f∧Ke7 f x l=0))∧Jyu x l∧∀(x:Nat),Jyu x l→Br (decide (Nc x<Ln l)) (Tw (Bd (Nc x) (Ln l))∧(J4a q l x∧(Ke7 f x l+1)*8≤140737488355328)∧Z20 x∧∃(y:Nat),Si (Ln l) (Z83 x y∧Sf l ((fun(x:((Int×Int)×Int×Int)×PUnit)=>q x)=q∧(fun(x:((Int×Int)×Int×Int)×PUnit)=>f x)=f∧J15 f x l++[f (J1p l x)]=J15 f y l))∧Jyu y l∧J5k l y x) (J15 f x l=List.map (fun(x:(Int×Int)×Int×Int)=>f (x,PUnit.unit)) l))=_).mp ?_
 delta Z20 Z83 Jza Jy1 Jyu J6u J51 J5k J15 Ke7 J4e J1p J4a Br Iw Bd Tw Sf Si Ln Nc E2
 intro hb hq
 refine⟨(0:Nat),⟨rfl,rfl,rfl,rfl,rfl,by simp⟩,Nat.zero_le _,fun(k:Nat) hk=>⟨fun h=> ?_,fun h=> ?_⟩⟩
 ·have hlt:k<l.length:=by simpa using h
  refine⟨by omega,⟨hq (l.getD k ((0,0),0,0)) (Jf hlt),by simp only[List.length_map,List.length_take];omega⟩,by omega,(k+1:Nat),⟨rfl,by simp,rfl,rfl,rfl, ?_⟩,by omega,by omega⟩
  rw[←Dp (d:=((0,0),0,0)) hlt,List.map_append];rfl
 ·have hlt:¬k<l.length:=by simpa using h
  rw[List.take_of_length_le (by omega)]
abbrev Kiw:=Kjx.add Klx
theorem Dc {l:List (Int×Int)} (h:K9 l (-1)=0):∀k,k≤l.length→K9 (l.drop k) (K2 l k)=0
 |0,_=>by simpa[K2] using h
 |k+1,hk=>by
  have ih:=Dc h k (by omega)
  rw[Zf (by omega)] at ih
  simp only at ih
  split at ih
  ·rename_i h1;exact absurd ih h1
  ·exact ih
theorem Jsb {l:List (Int×Int)} (h:Kk l=0) {k:Nat} (hk:k<l.length):(0≤(l.getD k (0,0)).1∧(l.getD k (0,0)).1≤100000)∧(-1000≤(l.getD k (0,0)).2∧(l.getD k (0,0)).2≤1000)∧K2 l k<(l.getD k (0,0)).1:=by
 have hg:K9 l (-1)=0:=by
  unfold Kk at h
  split at h
  ·simp at h
  ·exact h
 have h0:=Dc hg k (by omega)
 rw[Zf hk] at h0
 simp only at h0
 split at h0
 ·rename_i h1;exact absurd h0 h1
 ·rename_i h1
  have h1':=Decidable.not_not.1 h1
  rw[J5,J5,J5] at h1'
  have w1:=Up h1'.1
  have w2:=Up h1'.2.1
  have h3:=h1'.2.2.1
  refine⟨w1,w2, ?_⟩
  by_cases h4:(l.getD k (0,0)).1≤K2 l k
  ·rw[decide_eq_true h4] at h3;simp at h3
  ·omega
theorem Dy {l:List (Int×Int)} (h:Kk l=0):l.length≤32:=by
 unfold Kk at h
 split at h
 ·simp at h
 ·omega
def Joe (x:Int×Int):Prop:=(0≤x.1∧x.1≤100000)∧-1000≤x.2∧x.2≤1000
theorem Dz {l:List (Int×Int)} (h:Kk l=0):∀x∈l,Joe x:=fun x hx=>by
 obtain⟨k,hk,rfl⟩:=List.getElem_of_mem hx
 have:=Jsb h hk
 have e1:l.getD k (0,0)=l[k]:=by simp[List.getD_eq_getElem?_getD,hk]
 rw[e1] at this
 exact⟨this.1,this.2.1⟩
theorem Jjt:∀{l:List (Int×Int)} {q:Int×Int},(∀x∈l,Joe x)→Joe q→∀s∈Vy l q,Hc s
 |[],_,_,_,s,hs=>by simp[Vy] at hs
 | x :: r, q, h, hq, s, hs => by
  simp only[Vy,List.mem_cons] at hs
  rcases hs with rfl|hs
  ·have hx:=h x (by simp)
   exact⟨hx.1,hx.2,hq.2,hq.1⟩
  ·exact Jjt (fun y hy=>h y (by simp[hy])) (h x (by simp)) s hs
theorem Jgg:∀{l:List (Int×Int)} {q:Int×Int},(Vy l q).length=l.length
 |[],_=>rfl
 |x::r,q=>by simp[Vy,Jgg (l:=r)]
theorem Jl2 {x:Int×Int×Int} {fr:Int} {l:List (Int×Int)} (h:Jeu x fr l=0):Jj0 x∧Kk l=0∧Joe (0,fr)∧(∀s∈Jw fr l,Hc s)∧(Jw fr l).length=l.length∧l.length≤32:=by
 unfold Jeu at h
 rw[J5,J5,J5] at h
 obtain⟨h1,h2,h3,_⟩:=h
 unfold Jgn at h1
 rw[J5,J5,J5] at h1
 have w1:=Up h1.1
 have w2:=Up h1.2.1
 have w3:=Up h1.2.2.1
 have w4:=Up h2
 have hq:Joe (0,fr):=⟨⟨by show(0:Int)≤0;decide,by show(0:Int)≤100000;decide⟩,by show -1000≤fr;omega,by show fr≤1000;omega⟩
 exact⟨⟨w1,w2,w3⟩,h3,hq,Jjt (Dz h3) hq,Jgg,Dy h3⟩
def Jdx (x:Int×Int×Int) (fr:Int) (l:List (Int×Int)) (t:Int):Int:=
 let i:=idxSF (fun s:StT=>decide (t≤s.1.1)) (Jw fr l) 0
 if 0≤i then Hd ((Jw fr l).getD i.toNat ((0,0),0,0)) x.1 t else if 0<(Jw fr l).length then((Jw fr l).getD ((Jw fr l).length-1) ((0,0),0,0)).1.2 else fr
def Jvg (x:Int×Int×Int) (fr:Int) (l:List (Int×Int)):Int:=Ja ((Jw fr l).map (Ze x))
def Fm (x:Int×Int×Int) (fr:Int) (l:List (Int×Int)) (n:Int):Int:=Ja [Jeu x fr l,Jd n 1 256]
def Xv (x:Int×Int×Int) (fr:Int) (l:List (Int×Int)) (k:Nat):List Int:=(List.range k).map fun t:Nat=>Jdx x fr l t
theorem Dx {x:Int×Int×Int} {fr:Int} {l:List (Int×Int)} {k:Nat}:Xv x fr l (k+1)=Xv x fr l k++[Jdx x fr l k]:=by simp[Xv,List.range_succ]
theorem Jgu {x:Int×Int×Int} {fr:Int} {l:List (Int×Int)} {k:Nat}:(Xv x fr l k).length=k:=by simp[Xv]
def Vf (x:Int×Int×Int) (fr:Int) (l:List (Int×Int)) (n:Int):List Int×Int:=
 if Fm x fr l n≠0 then([],Fm x fr l n) else if Jvg x fr l≠0 then([],Jvg x fr l) else(Xv x fr l n.toNat,0)
def Juf:Con:={args:=[a3,aI,aL 31,aI],ress:=[(false, .list 3 sI),I],owns:=[true],pre:=fun _=>[],spec:=fun(x,fr,l,n,_)=>((Vf x fr l n).1,(Vf x fr l n).2,())}
abbrev Jk8 (x:Int×Int×Int) (fr:Int) (l:List (Int×Int)) (n:Int):Ann:={X:=Nat,σ:=fun k=>⟨4,[(1, .one (.int .i64 fr)),(4, .one (.ptr 1 0)),(11, .one (.sl 2)),(13, .one (.sl 3)),(38, .one (.int .i64 n)),(39, .one (.int .i64 k))],[(1, .box 41 [.int .i64 x.1, .int .i64 x.2.1, .int .i64 x.2.2]),(2, .imm 89 sSt (Jw fr l)),(3, .own 3 sI (Xv x fr l k))]⟩,inv:=fun k=>k≤n.toNat∧Fm x fr l n=0∧Jvg x fr l=0,mu:=fun k=>n.toNat-k}
def J6q (a:Int×Int×Int) (b:Int) (c:List (Int×Int)) (d:Nat):=(List.length (Xv a b c d)+1)*8≤140737488355328
def J6h (a:Nat) (b:Int) (c:Int×Int×Int) (d:Int) (e:List (Int×Int)):=a≤Int.toNat b∧Fm c d e b=0∧Jvg c d e=0
def J5s (a:Nat) (b:Int) (c:List (Int×Int)):=idxSF (fun(x:(Int×Int)×Int×Int)=>decide (Nc a≤x.1.1)) (Jw b c) 0
def Khc (a:Int×Int×Int) (b:Int) (c:List (Int×Int)):=List.map (fun(x:(Int×Int)×Int×Int)=>Ze (Z19 a) x) (Jw b c)
def Kgw (a:Int×Int×Int) (b:Int) (c:List (Int×Int)):=Ja (Khc a b c)
def J5i (a:Nat) (b:Int) (c:Int×Int×Int) (d:Int) (e:List (Int×Int)) (f:Nat):=J6h a b c d e∧Int.toNat b-a<Int.toNat b-f
def Key (a:Int) (b:List (Int×Int)) (c:(Int×Int)×Int×Int):=c∈Jw a b
def Kev (a:Int) (b:List (Int×Int)) (c:Nat):=Gt (Jw a b) (J5s c a b) Jza
def Kdj (a:Int) (b:List (Int×Int)) (c:Nat):=(E2 (Kev a b c).1,E2 (Kev a b c).2)
theorem wp9 (x:Int×Int×Int) (fr:Int) (l:List (Int×Int)) (n:Int):wpF Tryz.prog Kiw.g (Dl (Jk8 x fr l n)) Tryz.f9 Juf (x,fr,l,n,()):=by
 refine(by kernel_rfl:(2≤1000000∧Br (Ja [Jeu (Z19 x) fr l,Jd n 1 256] !=0) ([]=(Vf x fr l n).1∧Ja [Jeu (Z19 x) fr l,Jd n 1 256]=(Vf x fr l n).2) (Jro l∧(List.length (Jw fr l)≤1000000∧(∀(x_1:(Int×Int)×Int×Int),Key fr l x_1→Jj0 (Z19 x)∧Hc x_1)∧List.length (Khc x fr l)≤1000000)∧Br (Kgw x fr l !=0) ([]=(Vf x fr l n).1∧Kgw x fr l=(Vf x fr l n).2) (∃(x_1:Nat),Si fr (Si n (0=Nc x_1∧Si x.1 (Si x.2.1 (Si x.2.2 (Sf (Jw fr l) (List.length (Xv x fr l x_1)=0))))))∧J6h x_1 n x fr l∧∀(x_2:Nat),J6h x_2 n x fr l→Br (decide (Nc x_2<n)) ((List.length (Jw fr l)≤1000000∧∀(x:(Int×Int)×Int×Int),Key fr l x→True)∧Br (decide (0≤J5s x_2 fr l)) (T2 (Bd (J5s x_2 fr l) (Ln (Jw fr l))) (Hc (Kdj fr l x_2)∧(1≤x.1∧x.1≤1000)∧(0≤Nc x_2∧Nc x_2≤100000)∧J6q x fr l x_2)∧Z20 x_2∧∃(y:Nat),Si fr (Si n (Z83 x_2 y∧Si x.1 (Si x.2.1 (Si x.2.2 (Sf (Jw fr l) (Xv x fr l x_2++[Hd (Kdj fr l x_2) x.1 (Nc x_2)]=Xv x fr l y))))))∧J5i y n x fr l x_2) (Br (decide (0<Ln (Jw fr l))) ((Iw (Ln (Jw fr l)-1)∧T2 (Bd (Ln (Jw fr l)-1) (Ln (Jw fr l))) (J6q x fr l x_2))∧Z20 x_2∧∃(y:Nat),Si fr (Si n (Z83 x_2 y∧Si x.1 (Si x.2.1 (Si x.2.2 (Sf (Jw fr l) (Xv x fr l x_2++[(Gt (Jw fr l) (Ln (Jw fr l)-1) Jza).1.2]=Xv x fr l y))))))∧J5i y n x fr l x_2) (J6q x fr l x_2∧Z20 x_2∧∃(y:Nat),Si fr (Si n (Z83 x_2 y∧Si x.1 (Si x.2.1 (Si x.2.2 (Sf (Jw fr l) (Xv x fr l x_2++[fr]=Xv x fr l y))))))∧J5i y n x fr l x_2))) (Xv x fr l x_2=(Vf x fr l n).1∧0=(Vf x fr l n).2))))=_).mp ?_
 delta Z19 Z20 Z37 Z83 Jro Jza J6q J6h J5s Khc Kgw J5i Key Kev Kdj Br Iw Bd T2 Sf Si Ln Nc Gt E2
 have hE:Ja [Jeu (x.1,x.2.1,x.2.2) fr l,Jd n 1 256]=Fm x fr l n:=rfl
 rw[hE]
 refine⟨by omega,fun h=> ?_,fun h=> ?_⟩
 ·have h0:=bne_iff_ne.1 h
  simp[Vf,h0]
 ·have h0:=bne_eq_false_iff_eq.1 h
  have h0':=h0
  unfold Fm at h0'
  rw[J5,J5] at h0'
  obtain⟨r1,r2,r3,r4,r5,r6⟩:=Jl2 h0'.1
  have hn:=Up h0'.2.1
  have hR:Ja ((Jw fr l).map fun s=>Ze (x.1,x.2.1,x.2.2) s)=Jvg x fr l:=rfl
  rw[hR]
  refine⟨by omega,⟨by omega,fun s hs=>⟨r1,r4 s hs⟩,by rw[List.length_map];omega⟩,fun h1=> ?_,fun h1=> ?_⟩
  ·have h1':=bne_iff_ne.1 h1
   simp[Vf,h0,h1']
  ·have h1':=bne_eq_false_iff_eq.1 h1
   refine⟨(0:Nat),by simp[Xv],⟨Nat.zero_le _,h0,h1'⟩,fun(k:Nat) hk=>⟨fun h=> ?_,fun h=> ?_⟩⟩
   ·have hlt:(k:Int)<n:=of_decide_eq_true h
    have hb:=Jo9 (f:=fun s:StT=>decide ((k:Int)≤s.1.1)) (l:=Jw fr l) (k:=0)
    have hT:Jdx x fr l k=(let i:=idxSF (fun s:StT=>decide ((k:Int)≤s.1.1)) (Jw fr l) 0
      if 0≤i then Hd ((Jw fr l).getD i.toNat ((0,0),0,0)) x.1 k else if 0<(Jw fr l).length then((Jw fr l).getD ((Jw fr l).length-1) ((0,0),0,0)).1.2 else fr):=rfl
    have hx1:=r1.1
    rw[Jgu]
    generalize idxSF (fun s:StT=>decide ((k:Int)≤s.1.1)) (Jw fr l) 0=i at*
    change i= -1∨(0:Int)≤i∧i<0+((Jw fr l).length:Int) at hb
    refine⟨⟨by omega,fun _ _=>trivial⟩,fun h2=> ?_,fun h2=>⟨fun h3=> ?_,fun h3=> ?_⟩⟩
    ·have h2':=of_decide_eq_true h2
     rw[if_pos h2'] at hT
     refine⟨⟨⟨by omega,by omega⟩,⟨by omega,by omega⟩,r4 _ (Jf (by omega)),hx1,⟨by omega,by omega⟩,by omega⟩,⟨by omega,by omega⟩,(k+1:Nat),⟨rfl,rfl,by simp,rfl,rfl,rfl,rfl, ?_⟩,⟨by omega,h0,h1'⟩,by omega⟩
     rw[Dx,hT]
    ·have h2':=of_decide_eq_false h2
     have h3':0<(Jw fr l).length:=by have:=of_decide_eq_true h3;omega
     rw[if_neg h2',if_pos h3'] at hT
     have ek:(((Jw fr l).length:Int)-1).toNat=(Jw fr l).length-1:=by omega
     refine⟨⟨⟨by omega,by omega⟩,⟨by omega,by omega⟩,⟨by omega,by omega⟩,by omega⟩,⟨by omega,by omega⟩,(k+1:Nat),⟨rfl,rfl,by simp,rfl,rfl,rfl,rfl, ?_⟩,⟨by omega,h0,h1'⟩,by omega⟩
     rw[Dx,hT,ek]
    ·have h2':=of_decide_eq_false h2
     have h3':¬0<(Jw fr l).length:=by have:=of_decide_eq_false h3;omega
     rw[if_neg h2',if_neg h3'] at hT
     refine⟨by omega,⟨by omega,by omega⟩,(k+1:Nat),⟨rfl,rfl,by simp,rfl,rfl,rfl,rfl, ?_⟩,⟨by omega,h0,h1'⟩,by omega⟩
     rw[Dx,hT]
   ·have hlt:=of_decide_eq_false h
    have e:k=n.toNat:=by omega
    rw[e]
    simp[Vf,h0,h1']
theorem ok9:Ok Tryz.prog 9 Juf:=Ke mixed Kiw.ok (by kernel_rfl) (by kernel_rfl) (fun xx=>Dl (Jk8 xx.1 xx.2.1 xx.2.2.1 xx.2.2.2.1)) fun xx=>wp9 xx.1 xx.2.1 xx.2.2.1 xx.2.2.2.1
abbrev Kjw:=Kiw.add ok9
def J0o:Con:={args:=[aI],ress:=[Bo],owns:=[],pre:=fun _=>[],spec:=fun _=>(false,())}
theorem Kkr:Ok Tryz.prog 91 J0o:=okW Kjw Tryz.f91 na fun xx=>by
 obtain⟨(n:Int),_⟩:=xx
 refine(by kernel_rfl:((n !=n)=false)=_).mp ?_
 simp
abbrev Kjv:=Kjw.add Kkr
def Jue (x y:Int):Int:=bif decide (x<y) then -1 else bif decide (y<x) then 1 else 0
def Kmv:Con:={args:=[aI,aI],ress:=[I],owns:=[],pre:=fun _=>[],spec:=fun(x,y,_)=>(Jue x y,())}
theorem Kld:Ok Tryz.prog 57 Kmv:=okW Kjv Tryz.f57 na fun xx=>by
 obtain⟨(x:Int),(y:Int),_⟩:=xx
 refine(by kernel_rfl:(Br false (Br false (0=Jue x y) (Z61=Jue x y)) (Br false (1=Jue x y) (Br (decide (x<y)) (Z61=Jue x y) (Br (decide (y<x)) (1=Jue x y) (0=Jue x y)))))=_).mp ?_
 delta Z61 Br
 unfold Jue
 refine⟨fun h=>(by cases h),fun _=>⟨fun h=>(by cases h),fun _=>⟨fun h=> ?_,fun h=>⟨fun h1=> ?_,fun h1=> ?_⟩⟩⟩⟩
 ·rw[h];rfl
 ·rw[h,h1];rfl
 ·rw[h,h1];rfl
abbrev Kju:=Kjv.add Kld
abbrev Jmm:Con:={args:=[.val false (.list 31 sPt), .fn [(true,sPt)] Bo],ress:=[I],owns:=[],pre:=fun(l,(q,_),_)=>[l.length≤1000000,∀x∈l,Kq (q (x,()))],spec:=fun(l,(_,f),_)=>(idxSF (fun x=>f (x,())) l 0,())}
def Jyv (a:(Int×Int)×Unit→Bool) (b:List (Int×Int)):=idxSF (fun(x:Int×Int)=>a (x,PUnit.unit)) b 0
def J2b (a:List (Int×Int)) (b:Int×Int):=b∈a
def J12 (a:List (Int×Int)) (b:(Int×Int)×Unit→List Prop):=∀(x:Int×Int),J2b a x→Kq (b (x,PUnit.unit))
def J4p (a:Nat) (b:List (Int×Int)) (c:(Int×Int)×Unit→Bool):=Z90 a b∧Jyv c b=idxSF (fun(x:Int×Int)=>c (x,PUnit.unit)) (List.drop a b) (Nc a)
theorem Klc:Ok Tryz.prog 58 Jmm:=okW Kju Tryz.f58 (fun xx=>Dl (Jqw 31 sPt xx.1 [(true,sPt)] Bo xx.2.1.1 xx.2.1.2 fun k=>idxSF (fun x=>xx.2.1.2 (x,())) xx.1 0=idxSF (fun x=>xx.2.1.2 (x,())) (xx.1.drop k) k)) fun xx=>by
 obtain⟨(l:List (Int×Int)),⟨(q:(Int×Int)×Unit→List Prop),(f:(Int×Int)×Unit→Bool)⟩,_⟩:=xx
 refine(by kernel_rfl:(Jmz l→J12 l q→∃(x:Nat),Si (Z3 l) (0=Nc x∧Sf l ((fun(x:(Int×Int)×PUnit)=>q x)=q∧(fun(x:(Int×Int)×PUnit)=>f x)=f))∧J4p x l f∧∀(x:Nat),J4p x l f→Br (Juy x l) (T2 (Bd (Nc x) (Z3 l)) (Kq (q (E2 (Jxo l x),PUnit.unit)))∧Br (f (E2 (Jxo l x),PUnit.unit)) (Nc x=Jyv f l) (Z20 x∧∃(y:Nat),Si (Z3 l) (Z83 x y∧Sf l ((fun(x:(Int×Int)×PUnit)=>q x)=q∧(fun(x:(Int×Int)×PUnit)=>f x)=f))∧J4p y l f∧Jyr l y x)) (Z61=Jyv f l))=_).mp ?_
 delta Z3 Z20 Z37 Z61 Z83 Z90 Jmz Juy Jxo Jyv Jyr J2b J12 J4p Br Iw Bd T2 Sf Si Ln Nc E2
 intro hb hq
 refine⟨(0:Nat),⟨rfl,rfl,rfl,rfl,rfl⟩,⟨Nat.zero_le _,rfl⟩,fun(k:Nat) hk=>⟨fun h=> ?_,fun h=> ?_⟩⟩
 ·have hlt:k<l.length:=by simpa using h
  have hd:=Jd8 (f:=fun x=>f (x,())) (d:=(0,0)) hlt
  refine⟨⟨by omega,by omega,hq _ (Jf hlt)⟩,fun h1=> ?_,fun h1=>⟨by omega,(k+1:Nat),⟨rfl,by simp,rfl,rfl,rfl⟩,⟨by omega, ?_⟩,by omega⟩⟩
  ·rw[hk.2,hd,if_pos h1]
  ·rw[hk.2,hd,if_neg (by rw[show f (l.getD k (0,0),())=false from h1];simp)]
 ·have hlt:¬k<l.length:=by simpa using h
  have:k=l.length:=by omega
  rw[hk.2,this,List.drop_length];rfl
abbrev Kjt:=Kju.add Klc
abbrev Jp8:Con:={args:=[.val false (.list 31 sPt), .fn [(true,sPt)] Bo],ress:=[Bo],owns:=[],pre:=fun(l,(q,_),_)=>[l.length≤1000000,∀x∈l,Kq (q (x,()))],spec:=fun(l,(_,f),_)=>(decide (0≤idxSF (fun x=>f (x,())) l 0),())}
def Kil (a:(Int×Int)×Unit→Bool) (b:List (Int×Int)):=decide (0≤Jyv a b)
theorem Kl4:Ok Tryz.prog 25 Jp8:=okW Kjt Tryz.f25 na fun xx=>by
 obtain⟨(l:List (Int×Int)),⟨(q:(Int×Int)×Unit→List Prop),(f:(Int×Int)×Unit→Bool)⟩,_⟩:=xx
 refine(by kernel_rfl:(Jmz l→J12 l q→(Jmz l∧J12 l q)∧Kil f l=Kil f l)=_).mp ?_
 delta Z37 Jmz Jyv Kil J2b J12
 intro hb hq
 exact⟨⟨hb,hq⟩,rfl⟩
abbrev Kiv:=Kjt.add Kl4
def Jul:Con:={args:=[aP],ress:=[Bo],owns:=[],pre:=fun _=>[],spec:=fun(x,_)=>(Jd x.2 (-1000) 1000 !=0,())}
def Kg7 (a:Int×Int):=Jd a.2 Z67 (1000:Int) !=0
theorem Kkj (x:Int×Int):wpF Tryz.prog Kiv.g (na ()) Tryz.f26 Jul (x,()):=by
 refine(by kernel_rfl:(Kg7 x=Kg7 x)=_).mp ?_
 delta Z67 Kg7
 rfl
theorem Kl3:Ok Tryz.prog 26 Jul:=Ke mixed Kiv.ok (by kernel_rfl) (by kernel_rfl) na fun xx=>Kkj xx.1
abbrev Km4:=Kiv.add Kl3
def Jya (a b:List (Int×Int)) (k:Int):Int×Int:=(k,Zv a k+Zv b k)
def La (a b:List (Int×Int)):Int:=Ja [Kk a,Kk b]
theorem Jfy {t:Int}:∀{l:List (Int×Int)} {p:Int},(∀x∈l,-1000≤x.2∧x.2≤1000)→(-1000≤p∧p≤1000)→-1000≤Xc t l p∧Xc t l p≤1000
 |[],p,_,h=>h
 |x::r,p,hl,h=>by
  have hx:=hl x (by simp)
  simp only[Xc]
  refine Jfy (fun y hy=>hl y (by simp[hy])) ?_
  split<;>assumption
def Jwc (_:Nat→Option Res) (n:Nat) (args:List SV):Option Sx.Out:=match args with
 |[.v false [.val (.slice none 0 0)], .v false [.int .i64 k]]=>some ⟨[0≤k∧k≤1000000], .one (.sl n),[.own 31 sPt []],[]⟩
 |_=>none
def J92:Con:={args:=[],ress:=[],owns:=[],pre:=fun _=>[False],spec:=fun _=>(),prim:=some Jwc}
theorem Jwb:Jhw Tryz.prog 54 Jwc:=by
 intro N B w0 al τ σ a w ρ M R n d rs args out C hd hrs hop hpre hfresh
 unfold Jwc at hop
 split at hop
 ·rename_i k
  cases hop
  have hk:0≤k∧k≤1000000:=hpre
  have hn:¬al n:=fun h=>hfresh n h ⟨Nat.le_refl _,by simp⟩
  obtain⟨m,rfl⟩:=Int.eq_ofNat_of_zero_le hk.1
  have hm:m≤1000000:=by omega
  rcases Nat.eq_zero_or_pos m with h0|h0
  ·subst h0
   refine⟨_,Tryz.grow161_none w,fun e w' hp=> ?_⟩
   obtain⟨rfl,rfl⟩:=hp
   have hne:∀id,al id→id≠n:=fun id h e=>hn (e▸h)
   have en:Jx ρ n [Value.slice none 0 0] n= .slice none 0 0:=J8 (i:=0) rfl
   have eo:∀id,al id→Jx ρ n [Value.slice none 0 0] id=ρ id:=fun id h=>Ju (by have:=hne id h;simp;omega)
   refine⟨_,Jx ρ n [.slice none 0 0],M,rfl, ?_⟩
   refine C.step hd (fun id h=>by have:=hne id h;simp;omega) (fun id h=>Ju (by simpa using h)) (by show _=Sx.valOf false [Jx ρ n _ n];rw[en];rfl) (fun id hid=> ?_) (Sx.Below.refl _ _) (Nat.le_refl _) (fun _ h=>h) (fun b h=>C.old b (.inl h)) (fun _ _=>rfl) ?_ ?_ ?_ ?_
   ·have:id=n:=by simpa[SV.ids,Js,SC.ids] using hid
    exact .inr ⟨by omega,by simp;omega⟩
   ·intro r x _ _ hx ho b hb
    exact⟨rfl,(C.notM hx ho hb).1⟩
   ·rintro r x hx (h|h)
    ·have er:r=n:=by simp at h;omega
     subst er
     rw[K8 h] at hx
     simp at hx
     subst hx
     refine⟨⟨[],rfl,⟨by simp, .inl ⟨en,rfl⟩⟩,fun g hg=>by rw[en] at hg;cases hg⟩, .inr h,fun id hid=>by simp[Res.ids] at hid⟩
    ·exact absurd rfl h
   ·intro id h
    have er:id=n:=by simp at h;omega
    subst er
    rw[en];rfl
   ·rintro r r' x1 x2 hne' h1 h2 o1 o2 (h|h) b hb1 hb2
    ·have er:r=n:=by simp at h;omega
     subst er
     rw[en] at hb1;cases hb1
    ·exact absurd rfl h
  ·refine⟨_,Tryz.grow161 m w h0 hm,fun e w' hp=> ?_⟩
   obtain⟨cap,cur,rfl,rfl,hcur,hcap⟩:=hp
   have C0:Jn Tryz.prog N B w0 al τ σ a w.drew ρ M R:=C.world (w':=w.drew) rfl ⟨rfl,rfl,rfl,Nat.le_refl _,fun _ _=>rfl,fun _=>Nat.le_succ _⟩
   obtain⟨ρ',hC⟩:=C0.allocRes (n:=n) (d:=d) (x:= .own 31 sPt []) (v:= .sl n) (u:= .slice (some ⟨w.heap.size,0,none⟩) 0 cap) hd hn (.cells cur 31) rfl rfl (fun ρ' h=>h) (fun id h=>by simpa[SC.ids] using h) (fun id h=>by simp[Res.ids] at h) (fun ρ' h5 _=>by
    refine⟨[],rfl,⟨by simp, .inr ⟨w.heap.size,cap,cur,h5,C.base,heap_alloc_new w.drew _,Nat.zero_le _,hcap,hcur,by simp⟩⟩,fun g hg=> ?_⟩
    rw[h5] at hg;cases hg
    exact⟨fun h=>Nat.lt_irrefl _ (C.old w.heap.size (.inl h)),fun h=>Nat.lt_irrefl _ (C.old w.heap.size (.inr h))⟩)
   exact⟨_,ρ',M,rfl,hC⟩
 ·cases hop
theorem Kle:Ok Tryz.prog 54 J92:=⟨⟨Tryz.f54,by kernel_rfl,by kernel_rfl,by kernel_rfl⟩,fun z hz=>(by cases hz),fun F hF=>(by cases hF;exact Jwb),fun _ x M R w vs _ _ hpre _=>False.elim hpre⟩
abbrev Km3:=Km4.add Kle
def Jv6 (x:Int×Int):List (Int×Int)→List (Int×Int)
 |[]=>[x]
 |y::r=>if x.1<y.1 then x::y::r else y::Jv6 x r
def Yf:List (Int×Int)→List (Int×Int)
 |[]=>[]
 |x::r=>Jv6 x (Yf r)
def Hb (l:List (Int×Int)):Prop:=l.Pairwise fun x y=>x.1≠y.1
def J9t:Con:={args:=[],ress:=[],owns:=[],pre:=fun _=>[False],spec:=fun _=>(),srt:=some {T:=31,s:=sPt,g:=24,pre:=fun l=>Hb l∧l.length≤1000000,f:=Yf}}
theorem Jby (x:Int×Int):∀l,(Jv6 x l).Perm (x::l)
 |[]=> .refl _
 |y::r=>by
  simp only[Jv6]
  split
  ·exact .refl _
  ·exact((Jby x r).cons y).trans (.swap x y r)
theorem V2:∀l,(Yf l).Perm l
 |[]=> .refl _
 |x::r=>(Jby x _).trans ((V2 r).cons x)
theorem Jbx {x:Int×Int}:∀{l:List (Int×Int)},l.Pairwise (fun y z=>y.1<z.1)→(∀y∈l,x.1≠y.1)→(Jv6 x l).Pairwise fun y z=>y.1<z.1
 |[],_,_=>by simp[Jv6]
 | y :: r, h, hne => by
  replace h:=List.pairwise_cons.1 h
  simp only[Jv6]
  split
  ·rename_i hlt
   refine List.pairwise_cons.2 ⟨fun z hz=> ?_,List.pairwise_cons.2 h⟩
   rcases List.mem_cons.1 hz with rfl|hz
   ·exact hlt
   ·have:=h.1 z hz;omega
  ·rename_i hlt
   have h1:=hne y (by simp)
   refine List.pairwise_cons.2 ⟨fun z hz=> ?_,Jbx h.2 fun z hz=>hne z (by simp[hz])⟩
   rcases List.mem_cons.1 ((Jby x r).mem_iff.1 hz) with rfl|hz
   ·omega
   ·exact h.1 z hz
theorem Xh:∀{l:List (Int×Int)},Hb l→(Yf l).Pairwise fun y z=>y.1<z.1
 |[],_=>by simp[Yf]
 |x::r,h=>by
  replace h:=List.pairwise_cons.1 h
  exact Jbx (Xh h.2) fun y hy=>h.1 y ((V2 r).mem_iff.1 hy)
theorem Zd:∀{l l':List (Int×Int)},l.Perm l'→(l.Pairwise fun y z=>y.1<z.1)→(l'.Pairwise fun y z=>y.1<z.1)→l=l'
 |[],l',h,_,_=>by simpa using h
 |x::r,[],h,_,_=>by simp at h
 | x :: r, y :: r', h, h1, h2 => by
  by_cases e:x=y
  ·subst e
   rw[Zd h.cons_inv (List.pairwise_cons.1 h1).2 (List.pairwise_cons.1 h2).2]
  ·have m1:x∈r':=by
    have:=h.mem_iff.1 (show x∈x::r by simp)
    rcases List.mem_cons.1 this with q|q
    ·exact absurd q e
    ·exact q
   have m2:y∈r:=by
    have:=h.mem_iff.2 (show y∈y::r' by simp)
    rcases List.mem_cons.1 this with q|q
    ·exact absurd q.symm e
    ·exact q
   have l1:=(List.pairwise_cons.1 h1).1 y m2
   have l2:=(List.pairwise_cons.1 h2).1 x m1
   omega
theorem Lk {l l':List (Int×Int)} (h:l.Perm l') (hn:Hb l):Hb l':=(List.Perm.pairwise_iff (R:=fun x y:Int×Int=>x.1≠y.1) (fun q=>Ne.symm q) h).1 hn
theorem Jmc {l l':List (Int×Int)} (h:l.Perm l') (hn:Hb l):Yf l=Yf l':=
 Zd ((V2 l).trans (h.trans (V2 l').symm)) (Xh hn) (Xh (Lk h hn))
theorem Jkt {M:Nat→Prop} {w:World}:∀{xs:List (Int×Int)} {flat:List Value},U6 (Rep M w sPt) xs flat→flat=xs.flatMap Tryz.encO
 |[],_,h=>h
 |x::xs,flat,⟨c1,c2,e,⟨d1,d2,e1,h1,h2⟩,h3⟩=>by
  have h1:d1=[.int .i64 x.1]:=h1
  have h2:d2=[.int .i64 x.2]:=h2
  rw[e,e1,h1,h2,Jkt h3];rfl
theorem Jfq {M:Nat→Prop} {w:World}:∀{xs:List (Int×Int)},U6 (Rep M w sPt) xs (xs.flatMap Tryz.encO)
 |[]=>rfl
 |x::xs=>⟨Tryz.encO x,xs.flatMap Tryz.encO,rfl,⟨[.int .i64 x.1],[.int .i64 x.2],rfl,rfl,rfl⟩,Jfq⟩
theorem Jkv:∀(xs:List (Int×Int)) (j:Nat),j<xs.length*2→(xs.flatMap Tryz.encO)[j]? =(Tryz.encO (xs.getD (j/2) (0,0)))[j %2]?
 |[],j,h=>by simp at h
 |x::xs,0,_=>rfl
 |x::xs,1,_=>rfl
 |x::xs,j+2,h=>by
  have ih:=Jkv xs j (by simp at h;omega)
  have e1:(j+2)/2=j/2+1:=by omega
  have e2:(j+2) %2=j %2:=by omega
  rw[e1,e2,List.getD_cons_succ,←ih]
  rfl
theorem Jea (d:Array (Int×Int)):(Sort.flatK Tryz.encO 2 d).toList=d.toList.flatMap Tryz.encO:=by
 apply List.ext_getElem?
 intro j
 by_cases hj:j<d.size*2
 ·rw[Jkv d.toList j (by simpa using hj)]
  have h1:(Sort.flatK Tryz.encO 2 d)[j]! =(Tryz.encO d[j/2]!)[j %2]! :=Sort.get_flatK _ _ _ _ hj
  have hs:j<(Sort.flatK Tryz.encO 2 d).size:=by simpa using hj
  rw[Array.getElem?_toList,Array.getElem?_eq_getElem hs]
  rw[getElem!_pos (Sort.flatK Tryz.encO 2 d) j hs] at h1
  rw[h1]
  have e:d[j/2]! =d.toList.getD (j/2) (0,0):=by
   have:j/2<d.size:=by omega
   rw[getElem!_pos d (j/2) this,List.getD_eq_getElem?_getD,Array.getElem?_toList,Array.getElem?_eq_getElem this]
   rfl
  rw[e]
  have hl:(Tryz.encO (d.toList.getD (j/2) (0,0))).length=2:=rfl
  have h2:j %2<(Tryz.encO (d.toList.getD (j/2) (0,0))).length:=by rw[hl];omega
  rw[getElem!_pos (Tryz.encO (d.toList.getD (j/2) (0,0))) (j %2) h2,List.getElem?_eq_getElem h2]
 ·have hl:(d.toList.flatMap Tryz.encO).length=d.size*2:=by
   have:∀l:List (Int×Int),(l.flatMap Tryz.encO).length=l.length*2:=fun l=>by
    induction l with
    |nil=>rfl
    |cons x r ih=>simp[Tryz.encO,ih];omega
   rw[this];simp
  rw[List.getElem?_eq_none (by simp;omega),List.getElem?_eq_none (by omega)]
theorem Jvc:Ju4 Tryz.prog 23 {T:=31,s:=sPt,g:=24,pre:=fun l=>Hb l∧l.length≤1000000,f:=Yf}:=by
 intro w B v xs flat hB hg hrep how hpre
 obtain⟨hne,hlen⟩:=hpre
 have hflat:=Jkt hrep
 have hl0:(Yf xs).length=xs.length:=(V2 xs).length_eq
 rcases how.2 with⟨rfl,h0⟩|⟨g,cap,cur,rfl,hbg,hgh,hnc,hcm,hcs,htake⟩
 ·have:xs=[]:=List.eq_nil_of_length_eq_zero h0
  subst this
  have:=Tryz.sort127_none none 0 w
  refine this.mono ?_
  rintro e w' ⟨rfl,rfl⟩
  exact⟨rfl,_,rfl,rfl,flat,hrep,how,World.grownBy.refl _ _,Nat.le_refl _⟩
 ·have hlt:=(Array.getElem?_eq_some_iff.1 hgh).1
  have hH:Sort.HoldsK Tryz.encO 2 w g 0 xs.toArray:=by
   intro j hj
   have hj':j<xs.length*2:=by simpa using hj
   have h1:=how.cellAt j hj'
   have h2:=how.frozenAt j
   rw[Nat.zero_add]
   refine⟨?_,h2⟩
   rw[h1,hflat,←Jea xs.toArray,Array.getElem?_toList,Array.getElem?_eq_getElem hj,getElem!_pos (Sort.flatK Tryz.encO 2 xs.toArray) j hj]
   rfl
  have hc:=Tryz.sort127 g cap xs.toArray w hH hlt (by simp;omega)
  simp only[List.size_toArray] at hc
  refine hc.mono ?_
  rintro e w' ⟨rfl,d',n,os,hp,hs,rfl⟩
  obtain⟨hsz,_,hperm⟩:=hp
  have hsz:d'.size=xs.length:=by simpa using hsz
  have hperm':d'.toList.Perm xs:=by
   have e1:(d'.extract 0 xs.length).toList=d'.toList:=by rw[←hsz];simp
   have e2:(xs.toArray.extract 0 xs.length).toList=xs:=by simp
   rw[e1,e2] at hperm
   exact hperm
  have hnd:Hb d'.toList:=Lk hperm'.symm hne
  have hsorted:d'.toList.Pairwise fun y z=>y.1<z.1:=by
   rw[List.pairwise_iff_getElem]
   intro i j hi hj hij
   have hi':i<d'.size:=by simpa using hi
   have hj':j<d'.size:=by simpa using hj
   have h1:=hs i j (Nat.zero_le _) hij (by omega)
   rw[Tryz.ltO,getElem!_pos d' i hi',getElem!_pos d' j hj'] at h1
   have h2:=(List.pairwise_iff_getElem.1 hnd) i j hi hj hij
   have h1:¬d'[j].1<d'[i].1:=of_decide_eq_false h1
   have e1:d'.toList[i]=d'[i]:=by simp
   have e2:d'.toList[j]=d'[j]:=by simp
   rw[e1,e2] at h2⊢
   omega
  have hd:d'.toList=Yf xs:=Zd (hperm'.trans (V2 xs).symm) hsorted (Xh hne)
  have hK:(Sort.flatK Tryz.encO 2 d').size=xs.length*2:=by simp[hsz]
  have hheap:(sortWorldK Tryz.encO 2 w g 0 n d' os).heap[g]? =some (.cells (Sort.putCells id 0 (Sort.flatK Tryz.encO 2 d') cur) 31 (0,0)):=by
   show((w.heap.modify g (Sort.onCells (Sort.putCells id 0 (Sort.flatK Tryz.encO 2 d'))))++os)[g]? =_
   rw[Array.getElem?_append_left (by simpa using hlt),Array.getElem?_modify,if_pos rfl,hgh]
   rfl
  have hmul:xs.length*2≤cur.size:=by rw[hcs];exact Nat.mul_le_mul_right _ hnc
  have htk:(Sort.putCells id 0 (Sort.flatK Tryz.encO 2 d') cur).toList.take (xs.length*2)=(Yf xs).flatMap Tryz.encO:=by
   rw[←hd,←Jea]
   apply List.ext_getElem?
   intro j
   rw[List.getElem?_take]
   split
   ·rename_i hj
    have hjc:j<cur.size:=by omega
    rw[Array.getElem?_toList,Array.getElem?_toList]
    simp only[Sort.putCells,Array.getElem?_mapIdx,Array.getElem?_eq_getElem hjc,Option.map_some,Nat.zero_le,true_and,Nat.zero_add,Nat.sub_zero]
    rw[if_pos (by omega),Array.getElem?_eq_getElem (by omega),getElem!_pos (Sort.flatK Tryz.encO 2 d') j (by omega)]
    rfl
   ·rename_i hj
    rw[List.getElem?_eq_none (by simp;omega)]
  refine⟨rfl,_,rfl,hl0,_,Jfq,⟨?_, .inr ⟨g,cap,_,rfl,hbg,hheap,hnc,hcm,by simp[Sort.putCells,hcs],htk⟩⟩,⟨rfl,rfl,rfl, ?_,fun k hk hne=> ?_⟩,Nat.le_add_right _ _⟩
  ·have:=(Jfq (M:=fun _=>False) (w:=w) (xs:=Yf xs)).length
   rw[this,hl0]
  ·show w.heap.size≤((w.heap.modify g _)++os).size
   simp
  ·have hkg:k≠g:=by rintro rfl;exact hne rfl
   show((w.heap.modify g _)++os)[k]? =_
   rw[Array.getElem?_append_left (by simpa using hk),Array.getElem?_modify,if_neg (Ne.symm hkg)]
theorem Kl5:Ok Tryz.prog 23 J9t:=⟨⟨Tryz.f23,by kernel_rfl,by kernel_rfl,by kernel_rfl⟩,fun z hz=>(by cases hz;exact Jvc),fun F hF=>(by cases hF),fun _ x M R w vs _ _ hpre _=>False.elim hpre⟩
abbrev Kjs:=Km3.add Kl5
def Jwx:Con:={args:=[.val false (.list 27 (.list 31 sPt))],ress:=[(false, .list 31 sPt)],owns:=[true],pre:=fun(l,_)=>[l.length≤1000,∀x∈l,x.length≤1000],spec:=fun(l,_)=>(l.flatten,())}
abbrev J1a (l:List (List (Int×Int))):Nat→Option Ann:=fun id=>
 if id=0 then some {X:=Nat,σ:=fun k=>⟨1,[(0, .one (.sl 0)),(3, .one (.int .i64 (l.take k).flatten.length)),(9, .one (.sl 0)),(10, .one (.int .i64 l.length)),(11, .one (.int .i64 k))],[(0, .imm 27 (.list 31 sPt) l)]⟩,inv:=fun k=>k≤l.length,mu:=fun k=>l.length-k}
 else if id=2 then some {X:=Nat,σ:=fun k=>⟨2,[(6, .one (.sl 1)),(25, .one (.sl 0)),(26, .one (.int .i64 l.length)),(27, .one (.int .i64 k))],[(0, .imm 27 (.list 31 sPt) l),(1, .own 31 sPt (l.take k).flatten)]⟩,inv:=fun k=>k≤l.length,mu:=fun k=>l.length-k}
 else none
theorem Jwd {l:List (List (Int×Int))} (h:∀x∈l,x.length≤1000):l.flatten.length≤1000*l.length:=by
 induction l with
 |nil=>simp
 |cons x r ih=>
  have i1:=ih fun y hy=>h y (by simp[hy])
  have i2:=h x (by simp)
  simp only[List.flatten_cons,List.length_append,List.length_cons]
  omega
def Z71 (a:List (List (Int×Int))):=Ln a
def Z99 (a:List (List (Int×Int))):=List.length a
def Jy9 (a:Nat) (b:List (List (Int×Int))):=a≤Z99 b
def J61 (a:List (List (Int×Int))) (b:Nat):=List.getD a b []
def Jxl (a:Nat) (b:List (List (Int×Int))):=List.flatten (List.take a b)
def Jyq (a:Nat) (b:List (List (Int×Int))):=Ln (Jxl a b)
def Kfm (a:Nat) (b:List (List (Int×Int))) (c:Nat):=Jy9 a b∧Z99 b-a<Z99 b-c
def J4s (a:Nat) (b:List (List (Int×Int))):=Jyq a b+Ln (J61 b a)
def Kc3 (a:Nat) (b:List (List (Int×Int))):=Z20 a∧∃(y:Nat),(J4s a b=Jyq y b∧Si (Z71 b) (Z83 a y∧b=b))∧Kfm y b a
theorem Kl7:Ok Tryz.prog 21 Jwx:=okW Kjs Tryz.f21 (fun xx=>J1a xx.1) fun xx=>by
 obtain⟨(l:List (List (Int×Int))),_⟩:=xx
 refine(by kernel_rfl:(Z99 l≤1000→(∀(x:List (Int×Int)),x∈l→Jro x)→∃(x:Nat),(0=Jyq x l∧Si (Z71 l) (0=Nc x∧l=l))∧Jy9 x l∧∀(x:Nat),Jy9 x l→Br (decide (Nc x<Z71 l)) (Tw (Bd (Nc x) (Z71 l))∧Iw (J4s x l)∧Br (decide (J4s x l<0)) (False∧Kc3 x l) (Kc3 x l)) ((0≤Jyq x l∧Jyq x l≤1000000)∧∃(x:Nat),Si (Z71 l) (0=Nc x∧Sf l ([]=Jxl x l))∧Jy9 x l∧∀(x:Nat),Jy9 x l→Br (decide (Nc x<Z71 l)) (Tw (Bd (Nc x) (Z71 l))∧(List.length (Jxl x l)+List.length (J61 l x))*16≤140737488355328∧Z20 x∧∃(y:Nat),Si (Z71 l) (Z83 x y∧Sf l (Jxl x l++J61 l x=Jxl y l))∧Kfm y l x) (Jxl x l=List.flatten l)))=_).mp ?_
 delta Z20 Z37 Z71 Z83 Z99 Jro Jy9 J61 Jxl Jyq Kfm J4s Kc3 Br Iw Bd Tw Sf Si Ln Nc
 intro hb hl
 have hs:∀k,k<l.length→(l.take (k+1)).flatten=(l.take k).flatten++l.getD k []:=fun k hk=>by
  rw[←Dp (d:=[]) hk,List.flatten_append];simp
 have hbd:∀k,(l.take k).flatten.length≤1000000:=fun k=>by
  have:=Jwd (l:=l.take k) fun x hx=>hl x (List.mem_of_mem_take hx)
  have h2:=List.length_take_le' k l
  omega
 refine⟨(0:Nat),by simp,Nat.zero_le _,fun(k:Nat) hk=>⟨fun h=> ?_,fun h=> ?_⟩⟩
 ·have hlt:k<l.length:=by simpa using h
  have h1:=hl _ (Jf (d:=[]) hlt)
  have h2:=hbd k
  refine⟨⟨⟨by omega,by omega⟩,by omega,by omega⟩,⟨by omega,by omega⟩,fun h3=> ?_,fun h3=>⟨⟨by omega,by omega⟩,(k+1:Nat),⟨?_,rfl,by simp,rfl⟩,by omega,by omega⟩⟩
  ·have:=of_decide_eq_true h3;omega
  ·rw[hs k hlt,List.length_append];simp
 ·have h2:=hbd k
  refine⟨⟨by omega,by omega⟩,(0:Nat),by simp,Nat.zero_le _,fun(k:Nat) hk=>⟨fun h=> ?_,fun h=> ?_⟩⟩
  ·have hlt:k<l.length:=by simpa using h
   have h1:=hl _ (Jf (d:=[]) hlt)
   have h2:=hbd k
   refine⟨⟨⟨by omega,by omega⟩,by omega,by omega⟩, ?_,⟨by omega,by omega⟩,(k+1:Nat),⟨rfl,by simp,rfl,(hs k hlt).symm⟩,by omega,by omega⟩
   show((l.take k).flatten.length+(l.getD k []).length)*16≤140737488355328
   omega
  ·have hlt:¬k<l.length:=by simpa using h
   rw[List.take_of_length_le (by omega)]
abbrev Kjr:=Kjs.add Kl7
def D4:List (Int×Int)→List Int→List Int
 |[],ks=>ks
 |x::r,ks=>D4 r (Y5 ks x.1)
def Kf (a b:List (Int×Int)):List Int:=D4 (a++b) []
def Jbp (a b:List (Int×Int)):List (Int×Int):=Yf ((Kf a b).map (Jya a b))
def Lq (a b:List (Int×Int)):Int:=Ja [bif decide (32<((Jbp a b).length:Int)) then 5 else 0,bif decide (0≤idxSF (fun x:Int×Int=>Jd x.2 (-1000) 1000 !=0) (Jbp a b) 0) then 4 else 0]
def Ua (a b:List (Int×Int)):List (Int×Int)×Int:=if La a b≠0 then([],La a b) else if Lq a b≠0 then([],Lq a b) else(Jbp a b,0)
def Jwn:Con:={args:=[aL 31,aL 31],ress:=[(false, .list 31 sPt),I],owns:=[true],pre:=fun _=>[],spec:=fun(a,b,_)=>((Ua a b).1,(Ua a b).2,())}
def Jep (a b:List (Int×Int)) (ks:List Int) (seen:List Nat):List (Int×Int):=seen.map fun p=>Jya a b (ks.getD p 0)
theorem Jd5:∀(l:List (Int×Int)) (x:Int×Int) (ks:List Int),D4 (l++[x]) ks=Y5 (D4 l ks) x.1
 |[],_,_=>rfl
 |y::l,x,ks=>Jd5 l x (Y5 ks y.1)
theorem Jg9 {ks:List Int} {k:Int} (h:ks.Nodup):(Y5 ks k).Nodup:=by
 unfold Y5
 cases hc:ks.contains k with
 |true=>exact h
 |false=>
  have:k∉ks:=by simpa using hc
  simp only[cond_false]
  refine List.nodup_append.2 ⟨h,by simp,fun x hx y hy=> ?_⟩
  have:y=k:=by simpa using hy
  subst this
  rintro rfl
  contradiction
theorem Jmd {ks:List Int} {k:Int}:(Y5 ks k).length≤ks.length+1:=by
 unfold Y5
 cases ks.contains k<;>simp
theorem Jkj:∀{l:List (Int×Int)} {ks:List Int},ks.Nodup→(D4 l ks).Nodup∧(D4 l ks).length≤ks.length+l.length
 |[],ks,h=>⟨h,by simp[D4]⟩
 |x::l,ks,h=>by
  have ih:=Jkj (l:=l) (Jg9 (k:=x.1) h)
  have:=Jmd (ks:=ks) (k:=x.1)
  simp only[D4,List.length_cons]
  exact⟨ih.1,by omega⟩
theorem Jj7:∀{l l':List Nat},l.Nodup→l'.Nodup→(∀a,a∈l↔a∈l')→l.Perm l'
 |[],l',_,_,h=>by
  have:l'=[]:=List.eq_nil_iff_forall_not_mem.2 fun a ha=>by simpa using(h a).2 ha
  rw[this]
 | a :: r, l', h1, h2, h => by
  have ha:a∈l':=(h a).1 (by simp)
  have h1':=List.nodup_cons.1 h1
  refine(List.Perm.cons a (Jj7 h1'.2 (h2.erase a) fun b=> ?_)).trans (List.perm_cons_erase ha).symm
  rw[h2.mem_erase_iff]
  constructor
  ·intro hb
   exact⟨by rintro rfl;exact h1'.1 hb,(h b).1 (by simp[hb])⟩
  ·rintro⟨hne,hb⟩
   rcases List.mem_cons.1 ((h b).2 hb) with q|q
   ·exact absurd q hne
   ·exact q
theorem Jns {a b:List (Int×Int)} {ks:List Int} {seen:List Nat} (h1:seen.Nodup) (h2:∀p∈seen,p<ks.length) (h3:∀p,p<ks.length→p∈seen):(Jep a b ks seen).Perm (ks.map (Jya a b)):=by
 have hp:seen.Perm (List.range ks.length):=Jj7 h1 List.nodup_range fun p=>⟨fun h=>List.mem_range.2 (h2 p h),fun h=>h3 p (List.mem_range.1 h)⟩
 have e:(List.range ks.length).map (fun p=>Jya a b (ks.getD p 0))=ks.map (Jya a b):=by
  apply List.ext_getElem?
  intro j
  by_cases hj:j<ks.length
  ·simp[List.getElem?_map,List.getElem?_range hj,hj]
  ·rw[List.getElem?_eq_none (by simp;omega),List.getElem?_eq_none (by simp;omega)]
 rw[←e]
 exact hp.map _
theorem Jbu {a b:List (Int×Int)}:∀{ks:List Int},ks.Nodup→Hb (ks.map (Jya a b))
 |[],_=>by simp[Hb]
 |k::r,h=>by
  have h':=List.nodup_cons.1 h
  refine List.pairwise_cons.2 ⟨fun y hy=> ?_,Jbu h'.2⟩
  obtain⟨q,hq,rfl⟩:=List.mem_map.1 hy
  show k≠q
  rintro rfl
  exact h'.1 hq
theorem Jbl:∀(n:Nat) {l:List Nat},l.Nodup→(∀p∈l,p<n)→l.length≤n
 |0,l,_,h=>by
  have:l=[]:=List.eq_nil_iff_forall_not_mem.2 fun a ha=>by have:=h a ha;omega
  rw[this];simp
 | n + 1, l, hn, h => by
  by_cases hm:n∈l
  ·have ih:=Jbl n (hn.erase n) fun p hp=>by
    have:=(hn.mem_erase_iff).1 hp
    have h2:=h p this.2
    have:=this.1
    omega
   rw[List.length_erase_of_mem hm] at ih
   omega
  ·have ih:=Jbl n hn fun p hp=>by
    have h2:=h p hp
    have:p≠n:=by rintro rfl;exact hm hp
    omega
   omega
abbrev Jqu (a b:List (Int×Int)):Nat→Option Ann:=fun id=>
 if id=0 then some {X:=Nat,σ:=fun k=>⟨4,[(0, .one (.sl 0)),(1, .one (.sl 1)),(7, .one (.sl 2)),(27, .one (.sl 3)),(28, .one (.int .i64 (a++b).length)),(29, .one (.int .i64 k))],[(0, .imm 31 sPt a),(1, .imm 31 sPt b),(2, .map (D4 ((a++b).take k) [])),(3, .own 31 sPt (a++b))]⟩,inv:=fun k=>k≤(a++b).length∧La a b=0,mu:=fun k=>(a++b).length-k}
 else if id=2 then some {X:=List Nat,σ:=fun seen=>⟨5,[(0, .one (.sl 0)),(1, .one (.sl 1)),(10, .one (.sl 4)),(38, .one (.sl 3))],[(0, .imm 31 sPt a),(1, .imm 31 sPt b),(2, .map (Kf a b)),(3, .iter 2 (Kf a b) seen),(4, .own 31 sPt (Jep a b (Kf a b) seen))]⟩,inv:=fun seen=>seen.Nodup∧(∀p∈seen,p<(Kf a b).length)∧La a b=0,mu:=fun seen=>(Kf a b).length-seen.length}
 else none
def Z35 (a b:List (Int×Int)):=List.length (Kf a b)
def Z59:List (List (Int×Int)):=[]
def Z66 (a b:List (Int×Int)) (c:List Nat):=Jep a b (Kf a b) c
def Jzb (a b:List (Int×Int)) (c:List Nat):=Yf (Z66 a b c)
def J68 (a:List Nat) (b:Nat):=b∈a
def Jxm (a:Nat) (b c:List (Int×Int)):=D4 (List.take a (b++c)) []
def J62 (a b:List (Int×Int)) (c:List Nat):=List.length (Z66 a b c)
def J6w (a b:List (Int×Int)) (c:List Nat):=List.getD (Kf a b) (List.getLastD c 0) 0
def J6p (a:Nat) (b c:List (Int×Int)):=a≤List.length (b++c)∧La b c=0
def J6k (a b:List (Int×Int)) (c:List Nat) (d:Nat):=List.getD (Kf a b) (List.getLastD (c++[d]) 0) 0
def Kh5 (a b:List (Int×Int)) (c:List Nat):=(J62 a b c+1)*16≤140737488355328
def J44 (a:List Nat) (b c:List (Int×Int)):=List.Nodup a∧(∀(p:Nat),J68 a p→p<Z35 b c)∧La b c=0
def Ke2 (a b:List (Int×Int)) (c:List Nat):=Zv a (J6w a b c)+Zv b (J6w a b c)
def Keq (a b:List (Int×Int)) (c:List Nat) (d:Nat):=Zv a (J6k a b c d)+Zv b (J6k a b c d)
def Kd3 (a:List Nat) (b c:List (Int×Int)) (d:List Nat):=J44 a b c∧Z35 b c-List.length a<Z35 b c-List.length d
def Kdh (a b:List (Int×Int)) (c:List Nat):=Ja [bif decide (32<Ln (Jzb a b c)) then 5 else 0,bif decide (0≤idxSF (fun(x:Int×Int)=>match Jd x.2 Z67 (1000:Int)==0 with|true=>false|false=>true) (Jzb a b c) 0) then 4 else 0]
def Kba (a b:List (Int×Int)) (c:List Nat):=(Hb (Z66 a b c)∧J62 a b c≤1000000)∧(List.length (Jzb a b c)≤1000000∧∀(x:Int×Int),x∈Jzb a b c→True)∧2≤1000000∧Br (Kdh a b c !=0) ([]=(Ua a b).1∧Kdh a b c=(Ua a b).2) (Jzb a b c=(Ua a b).1∧0=(Ua a b).2)
theorem ok8:Ok Tryz.prog 8 Jwn:=okW Kjr Tryz.f8 (fun xx=>Jqu xx.1 xx.2.1) fun xx=>by
 obtain⟨(a:List (Int×Int)),(b:List (Int×Int)),_⟩:=xx
 refine(by kernel_rfl:(2≤1000000∧Br (Ja [Kk a,Kk b] !=0) ([]=(Ua a b).1∧Ja [Kk a,Kk b]=(Ua a b).2) ((2≤1000∧∀(x:List (Int×Int)),x∈a::b::Z59→Jro x)∧∃(x:Nat),(Ln (List.flatten (a::b::Z59))=Ln (a++b)∧0=Nc x∧Sf a (Sf b ([]=Jxm x a b∧a++List.flatten (b::Z59)=a++b)))∧J6p x a b∧∀(x:Nat),J6p x a b→Br (decide (Nc x<Ln (a++b))) (Tw (Bd (Nc x) (Ln (a++b)))∧Z20 x∧∃(y:Nat),Si (Ln (a++b)) (Z83 x y∧Sf a (Sf b ((match List.contains (Jxm x a b) (List.getD (a++b) x (0,0)).1 with|true=>Jxm x a b|false=>Jxm x a b++[(List.getD (a++b) x (0,0)).1])=Jxm y a b∧a++b=a++b)))∧J6p y a b∧List.length (a++b)-y<List.length (a++b)-x) (∃(x_1:List Nat),Sf a (Sf b (T2 (Jxm x a b=Kf a b) ([]=x_1∧J62 a b x_1=0)))∧J44 x_1 a b∧∀(x:List Nat),J44 x a b→Sf (Kf a b) ((∀(p:Nat),p<Z35 a b→(J68 x p→False)→Br true (Sf (Kf a b) ((x++[p]=[]→False)∧List.getLastD (x++[p]) 0<Z35 a b)∧(Jmz a∧Jmz b∧Iw (Keq a b x p)∧Kh5 a b x)∧∃(y:List Nat),Sf a (Sf b (Sf (Kf a b) (Sf (Kf a b) (x++[p]=y∧Z66 a b x++[(J6k a b x p,Keq a b x p)]=Z66 a b y))))∧Kd3 y a b x) (Kba a b x))∧((∀(p:Nat),p<Z35 a b→J68 x p)→Br false (Sf (Kf a b) ((x=[]→False)∧List.getLastD x 0<Z35 a b)∧(Jmz a∧Jmz b∧Iw (Ke2 a b x)∧Kh5 a b x)∧∃(y:List Nat),Sf a (Sf b (Sf (Kf a b) (Sf (Kf a b) (x=y∧Z66 a b x++[(J6w a b x,Ke2 a b x)]=Z66 a b y))))∧Kd3 y a b x) (Kba a b x))))))=_).mp ?_
 delta Z20 Z35 Z37 Z59 Z66 Z67 Z83 Jzb Jmz Jro J68 Jxm J62 J6w J6p J6k Kh5 J44 Ke2 Keq Kd3 Kdh Kba Br Iw Bd T2 Tw Sf Si Ln Nc
 have hE:Ja [Kk a,Kk b]=La a b:=rfl
 rw[hE]
 refine⟨by omega,fun h=> ?_,fun h=> ?_⟩
 ·have h0:=bne_iff_ne.1 h
  simp[Ua,h0]
 ·have h0:=bne_eq_false_iff_eq.1 h
  have h0':=h0
  unfold La at h0'
  rw[J5,J5] at h0'
  have la:=Dy h0'.1
  have lb:=Dy h0'.2.1
  have oa:=Dz h0'.1
  have ob:=Dz h0'.2.1
  have hk:=Jkj (l:=a++b) (ks:=[]) List.nodup_nil
  have hkn:(Kf a b).Nodup:=hk.1
  have hkl:(Kf a b).length≤64:=by
   have:=hk.2
   simp only[List.length_append,List.length_nil] at this
   show(D4 (a++b) []).length≤64
   omega
  have hab:(a++b).length=a.length+b.length:=List.length_append
  have e1:[a,b].flatten=a++b:=by simp
  refine⟨⟨by omega,fun x hx=> ?_⟩,(0:Nat),by simp[D4],⟨Nat.zero_le _,h0⟩,fun(k:Nat) hk=>⟨fun h=> ?_,fun h=> ?_⟩⟩
  ·have:x=a∨x=b:=by simpa using hx
   rcases this with rfl|rfl<;>omega
  ·have hlt:k<(a++b).length:=by have:=of_decide_eq_true h;omega
   refine⟨⟨⟨by omega,by omega⟩,by omega,by omega⟩,⟨by omega,by omega⟩,(k+1:Nat),⟨rfl,by simp,rfl,rfl, ?_,rfl⟩,⟨by omega,h0⟩,by omega⟩
   rw[←Dp (d:=(0,0)) hlt,Jd5]
   rfl
  ·have hlt:¬k<(a++b).length:=by have:=of_decide_eq_false h;omega
   have ek:D4 ((a++b).take k) []=Kf a b:=by rw[List.take_of_length_le (by omega)];rfl
   rw[ek]
   refine⟨[],⟨rfl,rfl,rfl,rfl,rfl,rfl⟩,⟨List.nodup_nil,fun p hp=>by simp at hp,h0⟩,fun(seen:List Nat) hs=>⟨rfl,fun p hp hps=>⟨fun _=> ?_,fun h=>(by cases h)⟩,fun hall=>⟨fun h=>(by cases h),fun _=> ?_⟩⟩⟩
   ·obtain⟨s1,s2,_⟩:=hs
    have hl:(seen++[p]).getLastD 0=p:=by simp[List.getLastD_eq_getLast?]
    have hn:(seen++[p]).Nodup:=List.nodup_append.2 ⟨s1,by simp,fun x hx y hy=>by
     have:y=p:=by simpa using hy
     subst this
     rintro rfl
     exact hps hx⟩
    have ha:∀q∈seen++[p],q<(Kf a b).length:=fun q hq=>by
     rcases List.mem_append.1 hq with hq|hq
     ·exact s2 q hq
     ·have:q=p:=by simpa using hq
      subst this;exact hp
    have hlen:=Jbl _ hn ha
    rw[List.length_append] at hlen
    have hlen:seen.length+1≤(Kf a b).length:=hlen
    have hsl:(Jep a b (Kf a b) seen).length=seen.length:=by simp[Jep]
    have b1:=Jfy (t:=(Kf a b).getD p 0) (l:=a) (p:=0) (fun x hx=>(oa x hx).2) ⟨by decide,by decide⟩
    have b2:=Jfy (t:=(Kf a b).getD p 0) (l:=b) (p:=0) (fun x hx=>(ob x hx).2) ⟨by decide,by decide⟩
    have q1:Zv a ((Kf a b).getD p 0)=Xc ((Kf a b).getD p 0) a 0:=rfl
    have q2:Zv b ((Kf a b).getD p 0)=Xc ((Kf a b).getD p 0) b 0:=rfl
    rw[hl,hsl]
    refine⟨⟨rfl,by simp,hp⟩,⟨by omega,by omega,⟨by omega,by omega⟩,by omega⟩,seen++[p],⟨rfl,rfl,rfl,rfl,rfl, ?_⟩,⟨hn,ha,h0⟩,by rw[List.length_append];simp;omega⟩
    simp only[Jep,List.map_append,List.map_cons,List.map_nil]
    rfl
   ·obtain⟨s1,s2,_⟩:=hs
    have hp:=Jns (a:=a) (b:=b) s1 s2 hall
    have ht:Hb (Jep a b (Kf a b) seen):=Lk hp.symm (Jbu hkn)
    have hO:Yf (Jep a b (Kf a b) seen)=Jbp a b:=Jmc hp ht
    have hl:(Jbp a b).length=(Kf a b).length:=by
     show(Yf _).length=_
     rw[(V2 _).length_eq,List.length_map]
    have hsl:(Jep a b (Kf a b) seen).length=(Kf a b).length:=by rw[hp.length_eq,List.length_map]
    rw[hO]
    change _∧_∧_∧((Lq a b !=0)=true→[]=(Ua a b).1∧Lq a b=(Ua a b).2)∧((Lq a b !=0)=false→Jbp a b=(Ua a b).1∧0=(Ua a b).2)
    refine⟨⟨ht,by omega⟩,⟨by omega,fun _ _=>trivial⟩,by omega,fun h=> ?_,fun h=> ?_⟩
    ·have h1:=bne_iff_ne.1 h
     simp[Ua,h0,h1]
    ·have h1:=bne_eq_false_iff_eq.1 h
     simp[Ua,h0,h1]
abbrev Kiu:=Kjr.add ok8
def Jqj:Con:={args:=[],ress:=[Bo],owns:=[],pre:=fun _=>[],spec:=fun _=>(true,())}
def Z10:=List.take 1 Hw
def Z11:=List.take 3 Hw
def Z13:=List.take 5 Hw
def Z15:=List.take 4 Hw
def Z18:=List.take 2 Hw
def Z54:=List.getD Hw 1 ev0
def Z56:=List.getD Hw 2 ev0
def Z58:=List.getD Hw 3 ev0
def Z60:=[(2:Int),(2:Int)]
def Z62:=[(0:Int),(1000:Int)]
def Z73:=Sf true (false=true)
def Jxu:=ByteArray.mk (Array.mk [98])
def Jxt:=ByteArray.mk (Array.mk [97])
def J2y:=[(2:Int),(1:Int),(64:Int),(60:Int)]
def J66:=[(0:Int),(1:Int),(2:Int),(64:Int)]
def Jy0:=Z10=Z10
def J63:=Z11=Z11
def J2v:=Z18=Z18
def Kit:=Z15=Z15
def Jyx:=[Jxu]
def Jtk:=[Jxt]
def J2t:=[ByteArray.mk (Array.mk [111])]
def Kir:=T2 (lOk Z13) Z73
def Kiq:=T2 (lOk Z11) Z73
def Kip:=T2 (lOk Z15) Z73
def Kio:=T2 (lOk Z18) Z73
def J18:=Jxt::Jyx
def Khg:=Br true Z73 Kiq
def Khe:=Br true Z73 Kio
def Khb:=Br true Z73 Kip
def J5m:=Vq [] J1 Z62 Jtk
def J47:=ByteArray.mk (Array.mk [111])::J18
def Kdt:=(J2v∧2<6∧Vq Z18 Jk Z60 []=Z56)∧Br false Z73 Kiq
def Kds:=(Kit∧4<6∧Vq Z15 Jk Z60 []=List.getD Hw 4 ev0)∧Br false Z73 Kir
def Kdr:=(J63∧3<6∧Vq Z11 Jk Z60 []=Z58)∧Br false Z73 Kip
def Kdc:=Br true Khe Kdt
def Kdb:=Br true Khg Kdr
def Kcs:=(J63∧3<6∧Vq Z11 Kn J2y J2t=Z58)∧Br false Khb Kds
def Kcr:=(J2v∧2<6∧Vq Z18 Kn J2y J2t=Z56)∧Br false Khg Kdr
def Kbh:=Br true Kdc Kcr
def Kbg:=Br true Kdb Kcs
def Kbf:=Br true (Br true (Br true Z73 (T2 (lOk Z10) Z73)) ((Jy0∧1<6∧Vq Z10 Jk Z60 []=Z54)∧Br false Z73 Kio)) ((Jy0∧1<6∧Vq Z10 Kn J2y J2t=Z54)∧Br false Khe Kdt)
def Ka5:=(J63∧3<6∧Vq Z11 Ka J66 J47=Z58)∧Br false (Br true Khb Kds) ((Kit∧4<6∧Vq Z15 Kn J2y J2t=List.getD Hw 4 ev0)∧Br false (Br true Z73 Kir) ((Z13=Z13∧5<6∧Vq Z13 Jk Z60 []=List.getD Hw 5 ev0)∧Br false Z73 (T2 (lOk (List.take 6 Hw)) (Tw (true=true)))))
def Ka4:=(Jy0∧1<6∧Vq Z10 Ka J66 J47=Z54)∧Br false Kdc Kcr
def Ka3:=(J2v∧2<6∧Vq Z18 Ka J66 J47=Z56)∧Br false Kdb Kcs
def Kav:=Br true Kbg Ka5
def Kau:=Br false Kbg Ka5
def Kat:=Br true Kbf Ka4
def Kas:=Br true Kbh Ka3
def Kar:=Br false Kbf Ka4
def Kaq:=Br false Kbh Ka3
def Kao:=Br true Kas Kaq
def Kan:=Br false Kas Kaq
theorem wp4:wpFG Tryz.prog Kiu.g (na ()) (fun _=>na ()) (Sx.look ([(5,Tryz.f5)]:List (Nat×Func))) Tryz.f4 Jqj ():=by
 refine(by kernel_rfl:((([]:List Ev)=[]∧(0:Nat)<(6:Nat)∧J5m=List.getD Hw (0:Nat) ev0)∧Br true ((Jy0∧(1:Nat)<(6:Nat)∧Vq Z10 J1 Z62 Jyx=Z54)∧Br true ((J2v∧(2:Nat)<(6:Nat)∧Vq Z18 Uh [(0:Int),(5:Int)] Jtk=Z56)∧Br false (Br true Kav Kau) (Br false Kav Kau)) (Br true Kao Kan)) (Br false ((Jy0∧(1:Nat)<(6:Nat)∧Vq Z10 Uh [(0:Int),(5:Int)] Jtk=Z54)∧Br false Kao Kan) (Br true (Br true Kat Kar) (Br false Kat Kar))))=_).mp ?_
 delta Z10 Z11 Z13 Z15 Z18 Z54 Z56 Z58 Z60 Z62 Z73 Jxu Jxt J2y J66 Jy0 J63 J2v Kit Jyx Jtk J2t Kir Kiq Kip Kio J18 Khg Khe Khb J5m J47 Kdt Kds Kdr Kdc Kdb Kcs Kcr Kbh Kbg Kbf Ka5 Ka4 Ka3 Kav Kau Kat Kas Kar Kaq Kao Kan Br T2 Tw Sf Kn Ka Uh Jk J1
 simp only[reduceCtorEq,false_implies,true_implies,and_self,true_and,and_true,implies_true,Jpm]
 refine⟨⟨by decide, ?_⟩,⟨by decide, ?_⟩,⟨by decide, ?_⟩,⟨by decide, ?_⟩,⟨by decide, ?_⟩,by decide, ?_⟩<;>kernel_rfl
theorem ok4:Ok Tryz.prog 4 Jqj:=Jgz mixed Kiu.ok (by kernel_rfl) (by kernel_rfl) (Un (l:=([(5,Tryz.f5)]:List (Nat×Func))) (List.forall_mem_cons.2 ⟨by kernel_rfl,by simp⟩)) (fun xx=>na ()) (fun xx=>fun _=>na ()) fun xx=>wp4
abbrev Km2:=Kiu.add ok4
structure At (l:List Ev) (r:Reg):Prop where
 err:(Jp l).2.2=0
 now:Vs (Jp l).1.2.2=r
 ev:(Jp l).1.1=l
theorem Ja6 {e:Ev} {l:List Ev} {h:V7}:Jdd h (e::l)=if Kv h e=0 then Jdd (Jf1 h e) l else(h,h.1.length+1,Kv h e):=rfl
theorem Jjz:∀{l m:List Ev} {h:V7},(Jdd h l).2.2=0→Jdd h (l++m)=Jdd (Jdd h l).1 m
 |[],_,_,_=>rfl
 | e :: l, m, h, h0 => by
  rw[List.cons_append]
  by_cases ha:Kv h e=0
  ·simp only[Ja6,if_pos ha] at h0⊢
   exact Jjz h0
  ·rw[Ja6,if_neg ha] at h0;exact absurd h0 ha
theorem Jsd {G:List Reg} {r:Reg}:Vs (G++[r])=r:=by
 unfold Vs
 rw[List.length_append,List.length_singleton,Nat.add_sub_cancel,List.getD_eq_getElem?_getD,List.getElem?_append_right (by omega),Nat.sub_self]
 rfl
theorem Ji8 {l:List Ev} {r:Reg} {e:Ev} (h:At l r) (hl:l.length<900) (hc:Jc e=0) (hk:(e.2.1.toList==K3.toList)=false) (ha:Zw (Jp l).1 e=0):Ya l e=0∧At (l++[e]) (Kh r e):=by
 have h0:=h.err
 have hA:Kv (Jp l).1 e=0:=by unfold Kv;rw[if_neg (by rw[hc];simp)];exact ha
 have e1:Jp l=Jdd Jdi l:=by unfold Jp;rw[if_neg (by omega)]
 have e2:Jp (l++[e])=(Jf1 (Jp l).1 e,0,0):=by
  unfold Jp
  rw[if_neg (by rw[List.length_append,List.length_singleton];omega),if_neg (by omega),Jjz (by rw[←e1];exact h0),←e1,Ja6,if_pos hA]
  rfl
 have e3:Jf1 (Jp l).1 e=((Jp l).1.1++[e],(Jp l).1.2.1++[e],(Jp l).1.2.2++[Kh (Vs (Jp l).1.2.2) e]):=by unfold Jf1;rw[hk];rfl
 refine⟨?_,by rw[e2],by rw[e2,e3,h.now];exact Jsd,by rw[e2,e3,h.ev]⟩
 have a0:Jld l e=0:=by
  unfold Jld
  rw[h0,hc,decide_eq_false (by omega)]
  rfl
 unfold Ya
 rw[if_pos a0];exact ha
theorem Jlc {l:List Ev} {r:Reg} {n:Int} {k:ByteArray} {ns:List ByteArray} {vs:List Int} {tx:ByteArray} (h:At l r) (hn:n=(l.length:Int)+1) (hk:(k.toList==K3.toList)=false) (h1:r.1≤vs.getD 0 0) (h2:Km r ns (Kz k).1 0=false) (h3:K4 r ns (Kz k).1 0=false):Zw (Jp l).1 (n,k,ns,vs,tx)=ckS r (n,k,ns,vs,tx):=by
 rw[V4 hk]
 unfold Jjd
 rw[h.ev,h.now,hn,h2,h3,decide_eq_false (by omega)]
 simp
theorem Jhr {l:List Ev} {r:Reg} (h:At l r):Kd l=r:=by unfold Kd;rw[if_pos h.err,h.now]
abbrev vA1:ByteArray:=⟨⟨[97]⟩⟩
abbrev vB1:ByteArray:=⟨⟨[98]⟩⟩
abbrev Itm:=Bool×Nat×Int
def nmI (b:Bool) (i:Nat):ByteArray:=⟨⟨(bif b then 113 else 112)::(Lib.itoa (i:Int))⟩⟩
def evI (n:Int) (x:Itm):Ev:=(n,Ka,[nmI x.1 x.2.1,vA1,vB1],[0,(x.2.1:Int)+1,(x.2.1:Int)+2,x.2.2],Jz)
def Yd (x:Itm):Ord:=(nmI x.1 x.2.1,vA1,vB1,((x.2.1:Int)+1,(x.2.1:Int)+2),x.2.2,1,-1)
def Jcu:List Sta:=[(vA1,1000,1),(vB1,1000,0)]
def Lm (L:List Itm):Reg:=(0,0,Jcu,L.map Yd,[],[],[])
def Zl:List Ev:=[(1,J1,[vA1],[0,1000],Jz),(2,J1,[vB1],[0,1000],Jz),(3,Uh,[vA1],[0,1],Jz)]
def jrI (L:List Itm):List Ev:=L.foldl (fun l x=>l++[evI ((l.length:Int)+1) x]) Zl
theorem Jfa {L:List Itm} {x:Itm}:jrI (L++[x])=jrI L++[evI (((jrI L).length:Int)+1) x]:=by unfold jrI;rw[List.foldl_append];rfl
theorem Jd6 {L:List Itm}:(jrI L).length=3+L.length:=by
 have go:∀(L:List Itm) (l0:List Ev),(L.foldl (fun l x=>l++[evI ((l.length:Int)+1) x]) l0).length=l0.length+L.length:=by
  intro L
  induction L with
  |nil=>intro l0;rfl
  |cons x L ih=>intro l0;rw[List.foldl_cons,ih,List.length_append,List.length_singleton,List.length_cons];omega
 exact go L Zl
theorem J06:At Zl (Lm []):=⟨by kernel_rfl,by kernel_rfl,by kernel_rfl⟩
theorem Jsf:∀(b b':Bool) (i j:Nat),i<6→j<6→((nmI b i).toList==(nmI b' j).toList)=(b==b'&&i==j):=by
 have h:((List.range 6).all fun i=>(List.range 6).all fun j=>[false,true].all fun b=>[false,true].all fun b'=>((nmI b i).toList==(nmI b' j).toList)==(b==b'&&i==j))=true:=by kernel_rfl
 intro b b' i j hi hj
 have h1:=List.all_eq_true.1 (List.all_eq_true.1 h i (List.mem_range.2 hi)) j (List.mem_range.2 hj)
 have h2:=List.all_eq_true.1 (List.all_eq_true.1 h1 b (by cases b<;>simp)) b' (by cases b'<;>simp)
 exact eq_of_beq h2
theorem Jzy:∀(b:Bool) (i:Nat),i<6→Xn (nmI b i)=true:=by
 have h:((List.range 6).all fun i=>[false,true].all fun b=>Xn (nmI b i))=true:=by kernel_rfl
 intro b i hi
 exact List.all_eq_true.1 (List.all_eq_true.1 h i (List.mem_range.2 hi)) b (by cases b<;>simp)
structure Jmr (x:Itm):Prop where
 i:x.2.1<6
 p:1≤x.2.2∧x.2.2≤250
theorem Jz9 {n:Int} {x:Itm} (h:1≤n∧n≤1000) (hx:Jmr x):Jc (evI n x)=0:=by
 have hi:=hx.i
 have hp:=hx.p
 unfold Jc
 rw[if_neg (by rw[show(evI n x).1=n from rfl,Je.2 h];simp)]
 rw[show D3 (evI n x).2.1=true from by show D3 Ka=true;kernel_rfl,cond_true,show Kz (evI n x).2.1=_ from Uc,if_pos ⟨rfl,rfl⟩]
 refine firstS_zero.2 fun y hy=> ?_
 have hy:y=Ja ([nmI x.1 x.2.1,vA1,vB1].map fun s=>bif Xn s then 0 else 8)∨y=Ja ([0,(x.2.1:Int)+1,(x.2.1:Int)+2,x.2.2].map fun n=>Jd n 0 999999999)∨y=0:=by
  rcases List.mem_cons.1 hy with h|hy
  ·exact .inl h
  rcases List.mem_cons.1 hy with h|hy
  ·exact .inr (.inl h)
  exact .inr (.inr (List.mem_singleton.1 hy))
 rcases hy with rfl|rfl|rfl
 ·simp only[List.map_cons,List.map_nil,Jzy x.1 x.2.1 hi,show Xn vA1=true by kernel_rfl,show Xn vB1=true by kernel_rfl,cond_true]
  rfl
 ·simp only[List.map_cons,List.map_nil,Je.2 (show(0:Int)≤0∧(0:Int)≤999999999 by omega),Je.2 (show 0≤(x.2.1:Int)+1∧(x.2.1:Int)+1≤999999999 by omega),Je.2 (show 0≤(x.2.1:Int)+2∧(x.2.1:Int)+2≤999999999 by omega),Je.2 (show 0≤x.2.2∧x.2.2≤999999999 by omega)]
  rfl
 ·rfl
def ld:List Itm→Int→Int
 |[],_=>0
 |x::l,h=>(if h=(x.2.1:Int)+1 then x.2.2 else 0)+ld l h
theorem Jas {x:Itm} {h:Int}:Jv (Yd x) h=decide (h=(x.2.1:Int)+1):=by
 unfold Jv U5 Yd
 dsimp only
 by_cases q:h=(x.2.1:Int)+1
 ·rw[decide_eq_true q,decide_eq_true (show(x.2.1:Int)+1≤h by omega),decide_eq_true (show h<(x.2.1:Int)+2 by omega)];rfl
 ·rw[decide_eq_false q]
  by_cases q2:(x.2.1:Int)+1≤h
  ·rw[decide_eq_true q2,decide_eq_false (show ¬h<(x.2.1:Int)+2 by omega)];rfl
  ·rw[decide_eq_false q2];rfl
theorem Jt3 {s:ByteArray} {h:Int} (hs:s=vA1∨s=vB1):∀{L:List Itm},Vk (L.map Yd) s h=ld L h
 |[]=>rfl
 |x::L=>by
  have ha:Dj (Yd x) s=true:=by rcases hs with rfl|rfl<;>(unfold Dj Yd;kernel_rfl)
  rw[List.map_cons,Vk,Jt3 hs,ha,cond_true,Jas,ld]
  by_cases q:h=(x.2.1:Int)+1
  ·rw[decide_eq_true q,if_pos q];rfl
  ·rw[decide_eq_false q,if_neg q];rfl
theorem Jgo {s:ByteArray} {h:Int} {L:List Itm} (hs:s=vA1∨s=vB1):Xm Jcu (L.map Yd) [] s h=1000-ld L h:=by
 unfold Xm
 rw[Jt3 hs]
 rcases hs with rfl|rfl
 ·rw[show Jrj [] vA1 h (Ll Jcu vA1).2.1=1000 by show(Ll Jcu vA1).2.1=1000;kernel_rfl]
 ·rw[show Jrj [] vB1 h (Ll Jcu vB1).2.1=1000 by show(Ll Jcu vB1).2.1=1000;kernel_rfl]
theorem Jkn {α:Type} {p:α→Bool}:∀{l:List α} {k:Nat},(∀x∈l,p x=false)→Vt p l k= -1
 |[],_,_=>rfl
 |x::l,k,h=>by
  unfold Vt
  rw[if_neg (by rw[h x (List.mem_cons_self ..)];simp)]
  exact Jkn fun y hy=>h y (List.mem_cons_of_mem _ hy)
structure Jhx (L:List Itm):Prop where
 ok:∀x∈L,Jmr x
 nd:(L.map fun x=>(x.1,x.2.1)).Nodup
 len:L.length≤12
theorem Jsw {L:List Itm} {b:Bool} {i:Nat} (hL:Jhx L) (hi:i<6) (h:∀y∈L,(y.1,y.2.1)≠(b,i)):Uv (L.map Yd) (nmI b i)= -1:=by
 unfold Uv
 refine Jkn fun x hx=> ?_
 obtain⟨y,hy,rfl⟩:=List.mem_map.1 hx
 show((nmI y.1 y.2.1).toList==(nmI b i).toList)=false
 rw[Jsf _ _ _ _ (hL.ok y hy).i hi]
 have:=h y hy
 cases q:(y.1==b&&y.2.1==i) with
 |false=>rfl
 |true=>
  simp only[Bool.and_eq_true,beq_iff_eq] at q
  exact absurd (by rw[q.1,q.2]) this
theorem Js2 {L:List Itm} {n:Int} {x:Itm} (hL:Jhx L) (hx:Jmr x) (hl:ld L ((x.2.1:Int)+1)≤750):ckS (Lm L) (evI n x)=0:=by
 have hi:=hx.i
 have hp:=hx.p
 have e:ckS (Lm L) (evI n x)=L1 Jcu (L.map Yd) [] (evI n x):=by
  unfold ckS
  rw[show Kz (evI n x).2.1=_ from Uc]
  rfl
 have e1:Df (evI n x)=0:=by
  unfold Df
  have a1:(bif ((evI n x).2.2.1.getD 1 Jz).toList==((evI n x).2.2.1.getD 2 Jz).toList then(24:Int) else 0)=0:=by kernel_rfl
  have a2:Yt (evI n x)=0:=by
   show(bif (bif (bif decide ((x.2.1:Int)+1<0) then true else decide ((x.2.1:Int)+2≤(x.2.1:Int)+1)) then true else decide (48<(x.2.1:Int)+2-((x.2.1:Int)+1))) then(14:Int) else 0)=0
   rw[decide_eq_false (by omega),decide_eq_false (by omega),decide_eq_false (by omega)];rfl
  have a3:Jd ((evI n x).2.2.2.1.getD 3 0) 1 1000=0:=Je.2 (by show 1≤x.2.2∧x.2.2≤1000;omega)
  rw[a1,a2,a3];rfl
 have hlen:=hL.len
 have e2:Jpg Jcu (L.map Yd) [] (evI n x)=false:=by
  unfold Jpg Zt
  have q:(Uq (evI n x)).2-(Uq (evI n x)).1=1:=by show((x.2.1:Int)+2)-((x.2.1:Int)+1)=1;omega
  rw[q]
  show(decide (min (Xm Jcu (L.map Yd) [] vA1 ((x.2.1:Int)+1)) (Xm Jcu (L.map Yd) [] vB1 ((x.2.1:Int)+1))<x.2.2)||false)=false
  rw[Jgo (.inl rfl),Jgo (.inr rfl),decide_eq_false (by omega)];rfl
 rw[e]
 unfold L1
 rw[if_neg (by rw[e1];simp),e2,decide_eq_false (by rw[List.length_map];omega)]
 rfl
theorem Jnb {L:List Itm} {b:Bool} {i:Nat}:Km (Lm L) [nmI b i,vA1,vB1] (Kz Ka).1 0=false:=by
 rw[Uc]
 have h1:Ym (Lm L) 0 vA1=true:=by show decide (0≤J0 Jcu vA1)=true;kernel_rfl
 have h2:Ym (Lm L) 0 vB1=true:=by show decide (0≤J0 Jcu vB1)=true;kernel_rfl
 simp only[Km,List.getD_cons_zero,List.getD_cons_succ,h1,h2,cond_true,cond_false,Bool.not_true]
theorem Jnc {L:List Itm} {s:ByteArray} (h:Uv (L.map Yd) s= -1):K4 (Lm L) [s,vA1,vB1] (Kz Ka).1 0=false:=by
 rw[Uc]
 have h1:Ym (Lm L) 1 s=false:=by show decide (0≤Uv (L.map Yd) s)=false;rw[h];rfl
 simp only[K4,List.getD_cons_zero,List.getD_cons_succ,h1,cond_true,cond_false,Bool.not_true,Bool.not_false]
theorem Jlw {L:List Itm} {n:Int} {x:Itm}:Kh (Lm L) (evI n x)=Lm (L++[x]):=by
 have e:(doS (Lm L) (evI n x))=F1 (Lm L) (evI n x):=by
  unfold doS
  rw[show Kz (evI n x).2.1=_ from Uc]
  rfl
 unfold Kh
 rw[e]
 unfold Lm
 rw[List.map_append]
 show((0:Int),(0:Int),Jcu,L.map Yd++[(nmI x.1 x.2.1,vA1,vB1,((x.2.1:Int)+1,(x.2.1:Int)+2),x.2.2,(Ll Jcu vA1).2.2,(-1:Int))],([]:List Met),([]:List Out),([]:List Per))=_
 rw[show(Ll Jcu vA1).2.2=1 by kernel_rfl]
 rfl
theorem Jk4 {L:List Itm} {x:Itm} (h:At (jrI L) (Lm L)) (hL:Jhx L) (hx:Jmr x) (hn:∀y∈L,(y.1,y.2.1)≠(x.1,x.2.1)) (hl:ld L ((x.2.1:Int)+1)≤750):Ya (jrI L) (evI (((jrI L).length:Int)+1) x)=0∧At (jrI (L++[x])) (Lm (L++[x])):=by
 have hlen:=hL.len
 have hj:=Jd6 (L:=L)
 have hf:=Jsw hL hx.i hn
 have hk:(Ka.toList==K3.toList)=false:=by kernel_rfl
 have ha:Zw (Jp (jrI L)).1 (evI (((jrI L).length:Int)+1) x)=0:=by
  rw[show evI (((jrI L).length:Int)+1) x=(((jrI L).length:Int)+1,Ka,[nmI x.1 x.2.1,vA1,vB1],[0,(x.2.1:Int)+1,(x.2.1:Int)+2,x.2.2],Jz) from rfl,Jlc h rfl hk (by show(0:Int)≤0;omega) Jnb (Jnc hf)]
  exact Js2 hL hx hl
 have:=Ji8 h (by omega) (Jz9 (n:=((jrI L).length:Int)+1) (by omega) hx) hk ha
 rw[Jlw] at this
 rw[Jfa]
 exact this
theorem Jwa {L:List Itm} {s:ByteArray} (hs:s=vA1∨s=vB1):Ym (Lm L) 0 s=true:=by
 rcases hs with rfl|rfl
 ·show decide (0≤J0 Jcu vA1)=true;kernel_rfl
 ·show decide (0≤J0 Jcu vB1)=true;kernel_rfl
theorem Jn0 {L:List Itm} {s:ByteArray} {h:Int} (hA:At (jrI L) (Lm L)) (hs:s=vA1∨s=vB1) (hh:0≤h∧h≤999999999):Ja7 (jrI L) s h=0∧Jes (jrI L) s h=1000-ld L h:=by
 have e:Ja7 (jrI L) s h=0:=by
  unfold Ja7 opE
  rw[if_pos hA.err,Jhr hA]
  simp only[List.map_cons,List.map_nil,Jwa hs,Je.2 hh]
  rfl
 refine⟨e, ?_⟩
 unfold Jes
 rw[if_pos e,Jhr hA]
 exact Jgo hs
abbrev Jgd:ByteArray:=⟨⟨[109,111,114,101]⟩⟩
abbrev Zg (n h p:Int):Ev:=(n,Ka,[Jgd,vB1,vA1],[0,h,h+1,p],Jz)
theorem Jvt {n h p:Int} (hn:1≤n∧n≤1000) (hh:0≤h∧h≤1000) (hp:0≤p∧p≤1000):Jc (Zg n h p)=0:=by
 unfold Jc
 rw[if_neg (by rw[show(Zg n h p).1=n from rfl,Je.2 hn];simp)]
 rw[show D3 (Zg n h p).2.1=true from by show D3 Ka=true;kernel_rfl,cond_true,show Kz (Zg n h p).2.1=_ from Uc,if_pos ⟨rfl,rfl⟩]
 have a1:Ja ((Zg n h p).2.2.1.map fun s=>bif Xn s then 0 else 8)=0:=by kernel_rfl
 have a2:Ja ([0,h,h+1,p].map fun n=>Jd n 0 999999999)=0:=by
  simp only[List.map_cons,List.map_nil,Je.2 (show(0:Int)≤0∧(0:Int)≤999999999 by omega),Je.2 (show 0≤h∧h≤999999999 by omega),Je.2 (show 0≤h+1∧h+1≤999999999 by omega),Je.2 (show 0≤p∧p≤999999999 by omega)]
  rfl
 rw[a1,show Ja ((Zg n h p).2.2.2.1.map fun n=>Jd n 0 999999999)=0 from a2]
 rfl
theorem Jvs:∀(b:Bool) (i:Nat),i<6→((nmI b i).toList==Jgd.toList)=false:=by
 have h:((List.range 6).all fun i=>[false,true].all fun b=> !((nmI b i).toList==Jgd.toList))=true:=by kernel_rfl
 intro b i hi
 simpa using List.all_eq_true.1 (List.all_eq_true.1 h i (List.mem_range.2 hi)) b (by cases b<;>simp)
theorem Jvu {L:List Itm} {h:Int} (hA:At (jrI L) (Lm L)) (hL:Jhx L) (hh:0≤h∧h≤1000) (hl:1≤ld L h∧ld L h≤1000):Ya (jrI L) (Zg (((jrI L).length:Int)+1) h (1000-ld L h+1))=4:=by
 have hlen:=hL.len
 have hj:=Jd6 (L:=L)
 have hk:(Ka.toList==K3.toList)=false:=by kernel_rfl
 have hc:=Jvt (n:=((jrI L).length:Int)+1) (h:=h) (p:=1000-ld L h+1) (by omega) hh (by omega)
 have a0:Jld (jrI L) (Zg (((jrI L).length:Int)+1) h (1000-ld L h+1))=0:=by
  unfold Jld
  rw[hA.err,hc,decide_eq_false (by omega)]
  rfl
 have hf:Uv (L.map Yd) Jgd= -1:=by
  unfold Uv
  refine Jkn fun x hx=> ?_
  obtain⟨y,hy,rfl⟩:=List.mem_map.1 hx
  exact Jvs _ _ (hL.ok y hy).i
 unfold Ya
 rw[if_pos a0,Jlc hA rfl hk (by show(0:Int)≤0;omega) ?_ ?_]
 ·have e:ckS (Lm L) (Zg (((jrI L).length:Int)+1) h (1000-ld L h+1))=L1 Jcu (L.map Yd) [] (Zg (((jrI L).length:Int)+1) h (1000-ld L h+1)):=by
   unfold ckS
   rw[show Kz (Zg (((jrI L).length:Int)+1) h (1000-ld L h+1)).2.1=_ from Uc]
   rfl
  rw[e]
  have e1:Df (Zg (((jrI L).length:Int)+1) h (1000-ld L h+1))=0:=by
   unfold Df
   have a1:(bif ((Zg (((jrI L).length:Int)+1) h (1000-ld L h+1)).2.2.1.getD 1 Jz).toList==((Zg (((jrI L).length:Int)+1) h (1000-ld L h+1)).2.2.1.getD 2 Jz).toList then(24:Int) else 0)=0:=by show(bif vB1.toList==vA1.toList then(24:Int) else 0)=0;kernel_rfl
   have a2:Yt (Zg (((jrI L).length:Int)+1) h (1000-ld L h+1))=0:=by
    show(bif (bif (bif decide (h<0) then true else decide (h+1≤h)) then true else decide (48<h+1-h)) then(14:Int) else 0)=0
    rw[decide_eq_false (by omega),decide_eq_false (by omega),decide_eq_false (by omega)];rfl
   have a3:Jd ((Zg (((jrI L).length:Int)+1) h (1000-ld L h+1)).2.2.2.1.getD 3 0) 1 1000=0:=Je.2 (by show 1≤1000-ld L h+1∧1000-ld L h+1≤1000;omega)
   rw[a1,a2,a3];rfl
  have e2:Jpg Jcu (L.map Yd) [] (Zg (((jrI L).length:Int)+1) h (1000-ld L h+1))=true:=by
   unfold Jpg Zt
   have q:(Uq (Zg (((jrI L).length:Int)+1) h (1000-ld L h+1))).2-(Uq (Zg (((jrI L).length:Int)+1) h (1000-ld L h+1))).1=1:=by show(h+1)-h=1;omega
   rw[q]
   show(bif decide (min (Xm Jcu (L.map Yd) [] vB1 h) (Xm Jcu (L.map Yd) [] vA1 h)<1000-ld L h+1) then true else false)=true
   rw[Jgo (.inl rfl),Jgo (.inr rfl),decide_eq_true (by omega)];rfl
  unfold L1
  rw[if_neg (by rw[e1];simp),e2]
  rfl
 ·rw[Uc]
  simp only[Km,List.getD_cons_zero,List.getD_cons_succ,Jwa (L:=L) (.inl rfl),Jwa (L:=L) (.inr rfl),cond_true,cond_false,Bool.not_true]
 ·rw[Uc]
  have h1:Ym (Lm L) 1 Jgd=false:=by show decide (0≤Uv (L.map Yd) Jgd)=false;rw[hf];rfl
  simp only[K4,List.getD_cons_zero,List.getD_cons_succ,h1,cond_true,cond_false,Bool.not_true,Bool.not_false]
theorem Jt2 {u:Int}:∀{L:List Itm},(∀x∈L,(x.2.1:Int)+1<u)→Ur [] u (L.map Yd)=L.map fun x=>(nmI x.1 x.2.1,(x.2.1:Int)+1)
 |[],_=>rfl
 | x :: L, h => by
  have hx:=h x (List.mem_cons_self ..)
  have e:Jiu [] u (Yd x)=[(nmI x.1 x.2.1,(x.2.1:Int)+1)]:=by
   unfold Jiu
   rw[show((Yd x).2.2.2.1.2-(Yd x).2.2.2.1.1).toNat=1 by show(((x.2.1:Int)+2)-((x.2.1:Int)+1)).toNat=1;omega]
   show(bif Jv (Yd x) ((x.2.1:Int)+1)&&(decide ((x.2.1:Int)+1<u)&&decide ((-1:Int)<0)) then[((Yd x).1,(x.2.1:Int)+1)] else[])++[]=_
   rw[Jas,decide_eq_true rfl,decide_eq_true hx]
   rfl
  rw[List.map_cons,Ur,e,Jt2 fun y hy=>h y (List.mem_cons_of_mem _ hy),List.map_cons]
  rfl
theorem Jvv {L:List Itm} {u:Int} (hA:At (jrI L) (Lm L)) (hL:Jhx L) (hu:0≤u∧u≤1000) (h:∀x∈L,(x.2.1:Int)+1<u):Jbn (jrI L) u=0∧Xp (jrI L) u=(L.map fun x=>(nmI x.1 x.2.1,(x.2.1:Int)+1),0):=by
 have hlen:=hL.len
 have e:Jbn (jrI L) u=0:=by
  unfold Jbn opE
  rw[if_pos hA.err,Je.2 (by omega)]
  rfl
 refine⟨e, ?_⟩
 unfold Xp
 rw[if_pos e,Jhr hA,show(Lm L).2.2.2.2.1=[] from rfl,show(Lm L).2.2.2.1=L.map Yd from rfl,Jt2 h,if_neg (by rw[List.length_map];omega)]
def Jmv (x:Itm):Met:=(nmI x.1 x.2.1,(x.2.1:Int)+1,x.2.2,x.2.2)
def evM (n u:Int) (x:Itm):Ev:=(n,Kn,[nmI x.1 x.2.1],[u,(x.2.1:Int)+1,x.2.2,x.2.2],Jz)
def Jcx (tk st:Int) (L:List Itm) (m:Nat):Reg:=(tk,st,Jcu,L.map Yd,(L.take m).map Jmv,[],[])
theorem Jz8 {n u:Int} {x:Itm} (h:1≤n∧n≤1000) (hu:0≤u∧u≤1000) (hx:Jmr x):Jc (evM n u x)=0:=by
 have hi:=hx.i
 have hp:=hx.p
 unfold Jc
 rw[if_neg (by rw[show(evM n u x).1=n from rfl,Je.2 h];simp)]
 rw[show D3 (evM n u x).2.1=true from by show D3 Kn=true;kernel_rfl,cond_true,show Kz (evM n u x).2.1=_ from Vl,if_pos ⟨rfl,rfl⟩]
 have a1:Ja ([nmI x.1 x.2.1].map fun s=>bif Xn s then 0 else 8)=0:=by
  simp only[List.map_cons,List.map_nil,Jzy x.1 x.2.1 hi,cond_true];rfl
 have a2:Ja ([u,(x.2.1:Int)+1,x.2.2,x.2.2].map fun n=>Jd n 0 999999999)=0:=by
  simp only[List.map_cons,List.map_nil,Je.2 (show 0≤u∧u≤999999999 by omega),Je.2 (show 0≤(x.2.1:Int)+1∧(x.2.1:Int)+1≤999999999 by omega),Je.2 (show 0≤x.2.2∧x.2.2≤999999999 by omega)]
  rfl
 rw[show Ja ((evM n u x).2.2.1.map fun s=>bif Xn s then 0 else 8)=0 from a1,show Ja ((evM n u x).2.2.2.1.map fun n=>Jd n 0 999999999)=0 from a2]
 rfl
theorem Jiy {α:Type} {p:α→Bool} {d:α}:∀{l:List α} {k m:Nat},m<l.length→p (l.getD m d)=true→(∀j,j<m→p (l.getD j d)=false)→Vt p l k=((k+m:Nat):Int)
 |[],_,_,h,_,_=>absurd h (by simp)
 |x::l,k,0,_,h1,_=>by unfold Vt;rw[if_pos (show p x=true from h1)];rfl
 |x::l,k,m+1,h,h1,h2=>by
  unfold Vt
  rw[if_neg (by rw[show p x=false from h2 0 (by omega)];simp),Jiy (m:=m) (by simpa using h) (by simpa using h1) fun j hj=>by simpa using h2 (j+1) (by omega)]
  omega
abbrev U8:Itm:=(false,0,0)
theorem Xg {α β:Type} {f:α→β} {d:α} {e:β}:∀{l:List α} {k:Nat},k<l.length→(l.map f).getD k e=f (l.getD k d)
 |[],_,h=>absurd h (by simp)
 |x::l,0,_=>rfl
 |x::l,k+1,h=>Xg (l:=l) (by simpa using h)
theorem Jo2 {L:List Itm} (hL:Jhx L) {j m:Nat} (hj:j<m) (hm:m<L.length):((nmI (L.getD j U8).1 (L.getD j U8).2.1).toList==(nmI (L.getD m U8).1 (L.getD m U8).2.1).toList)=false:=by
 have o1:=(hL.ok _ (Jf (d:=U8) (show j<L.length by omega))).i
 have o2:=(hL.ok _ (Jf (d:=U8) hm)).i
 rw[Jsf _ _ _ _ o1 o2]
 cases q:((L.getD j U8).1==(L.getD m U8).1&&(L.getD j U8).2.1==(L.getD m U8).2.1) with
 |false=>rfl
 |true=>
  exfalso
  simp only[Bool.and_eq_true,beq_iff_eq] at q
  have hn:=List.pairwise_iff_getElem.1 hL.nd j m (by rw[List.length_map];omega) (by rw[List.length_map];omega) hj
  simp only[List.getElem_map] at hn
  have e1:L.getD j U8=L[j]:=by simp[List.getD_eq_getElem?_getD,show j<L.length by omega]
  have e2:L.getD m U8=L[m]:=by simp[List.getD_eq_getElem?_getD,hm]
  rw[e1,e2] at q
  exact hn (by rw[q.1,q.2])
theorem Jzo {L:List Itm} (hL:Jhx L) {m:Nat} (hm:m<L.length):Uv (L.map Yd) (nmI (L.getD m U8).1 (L.getD m U8).2.1)=(m:Int)∧Jam (L.map Yd) (nmI (L.getD m U8).1 (L.getD m U8).2.1)=Yd (L.getD m U8):=by
 have e:Uv (L.map Yd) (nmI (L.getD m U8).1 (L.getD m U8).2.1)=(m:Int):=by
  unfold Uv
  rw[Jiy (d:=K6) (m:=m) (by rw[List.length_map];exact hm) (by rw[Xg (d:=U8) hm];exact(beq_self_eq_true _)) fun j hj=>by rw[Xg (d:=U8) (by omega)];exact Jo2 hL hj hm]
  simp
 refine⟨e, ?_⟩
 unfold Jam
 rw[e,Int.toNat_natCast,Xg (d:=U8) hm]
theorem Jzz {L:List Itm} (hL:Jhx L) {m:Nat} (hm:m<L.length) {h:Int}:Kj ((L.take m).map Jmv) (nmI (L.getD m U8).1 (L.getD m U8).2.1) h= -1:=by
 unfold Kj
 refine Jkn fun x hx=> ?_
 obtain⟨y,hy,rfl⟩:=List.mem_map.1 hx
 obtain⟨j,hj,rfl⟩:=List.getElem_of_mem hy
 have hj':j<m:=by rw[List.length_take] at hj;omega
 have e1:(L.take m)[j]=L.getD j U8:=by simp[List.getD_eq_getElem?_getD,show j<L.length by omega]
 rw[e1]
 show(bif (nmI (L.getD j U8).1 (L.getD j U8).2.1).toList==(nmI (L.getD m U8).1 (L.getD m U8).2.1).toList then _ else false)=false
 rw[Jo2 hL hj' hm];rfl
theorem Fa {α:Type} {l:List α} {k:Nat} {d:α} (h:k<l.length):l.take (k+1)=l.take k++[l.getD k d]:=(Ys h).symm
theorem Js9 {l:List Ev} {L:List Itm} {tk u:Int} {m:Nat} (h:At l (Jcx tk 0 L m)) (hl:l.length<900) (hL:Jhx L) (hm:m<L.length) (ht:tk≤u) (hu:((L.getD m U8).2.1:Int)+1<u∧u≤1000):Ya l (evM ((l.length:Int)+1) u (L.getD m U8))=0∧At (l++[evM ((l.length:Int)+1) u (L.getD m U8)]) (Jcx u 0 L (m+1)):=by
 have hx:=hL.ok _ (Jf (d:=U8) hm)
 have hk:(Kn.toList==K3.toList)=false:=by kernel_rfl
 obtain⟨f1,f2⟩:=Jzo hL hm
 have hno:=Jzz (h:=((L.getD m U8).2.1:Int)+1) hL hm
 generalize hxe:L.getD m U8=x at*
 have hs1:Ym (Jcx tk 0 L m) 1 (nmI x.1 x.2.1)=true:=by show decide (0≤Uv (L.map Yd) (nmI x.1 x.2.1))=true;rw[f1];exact decide_eq_true (by omega)
 have ha:Zw (Jp l).1 (evM ((l.length:Int)+1) u x)=0:=by
  rw[show evM ((l.length:Int)+1) u x=((l.length:Int)+1,Kn,[nmI x.1 x.2.1],[u,(x.2.1:Int)+1,x.2.2,x.2.2],Jz) from rfl,Jlc h rfl hk (by show tk≤u;exact ht) ?_ ?_]
  ·have e:ckS (Jcx tk 0 L m) ((l.length:Int)+1,Kn,[nmI x.1 x.2.1],[u,(x.2.1:Int)+1,x.2.2,x.2.2],Jz)=Jho (L.map Yd) ((L.take m).map Jmv) [nmI x.1 x.2.1] [u,(x.2.1:Int)+1,x.2.2,x.2.2]:=by
    unfold ckS
    rw[show Kz Kn=_ from Vl]
    rfl
   rw[e]
   unfold Jho
   simp only[List.getD_cons_zero,List.getD_cons_succ,f2]
   have i1:U5 (Yd x).2.2.2.1 ((x.2.1:Int)+1)=true:=by
    show(bif decide ((x.2.1:Int)+1≤(x.2.1:Int)+1) then decide ((x.2.1:Int)+1<(x.2.1:Int)+2) else false)=true
    rw[decide_eq_true (by omega),decide_eq_true (by omega)];rfl
   have i2:Jv (Yd x) ((x.2.1:Int)+1)=true:=by rw[Jas];exact decide_eq_true rfl
   have i3:Kj ((L.take m).map Jmv) (Yd x).1 ((x.2.1:Int)+1)= -1:=hno
   have i4:(Yd x).2.2.2.2.1=x.2.2:=rfl
   rw[i1,i2,i3,i4,decide_eq_false (show ¬u≤(x.2.1:Int)+1 by omega),decide_eq_false (show ¬x.2.2<x.2.2 by omega)]
   rfl
  ·rw[Vl]
   simp only[Km,List.getD_cons_zero,hs1,cond_true,cond_false,Bool.not_true]
  ·rw[Vl]
   simp only[K4,List.getD_cons_zero,cond_true,cond_false,Bool.not_true]
 have:=Ji8 h hl (Jz8 (n:=(l.length:Int)+1) (u:=u) (by omega) (by omega) hx) hk ha
 have e:Kh (Jcx tk 0 L m) (evM ((l.length:Int)+1) u x)=Jcx u 0 L (m+1):=by
  have e:(doS (Jcx tk 0 L m) (evM ((l.length:Int)+1) u x))=F2 (Jcx tk 0 L m) (evM ((l.length:Int)+1) u x):=by
   unfold doS
   rw[show Kz (evM ((l.length:Int)+1) u x).2.1=_ from Vl]
   rfl
  unfold Kh
  rw[e]
  unfold Jcx
  rw[Fa (d:=U8) hm,List.map_append,hxe]
  rfl
 rw[e] at this
 exact this
theorem Jvy {L:List Itm} (hL:Jhx L) {m:Nat} (hm:m<L.length):Kj (L.map Jmv) (nmI (L.getD m U8).1 (L.getD m U8).2.1) (((L.getD m U8).2.1:Int)+1)=(m:Int):=by
 unfold Kj
 rw[Jiy (d:=(Jz,(0:Int),(0:Int),(0:Int))) (m:=m) (by rw[List.length_map];exact hm) ?_ fun j hj=> ?_]
 ·simp
 ·rw[Xg (d:=U8) hm]
  show(bif (nmI (L.getD m U8).1 (L.getD m U8).2.1).toList==(nmI (L.getD m U8).1 (L.getD m U8).2.1).toList then(((L.getD m U8).2.1:Int)+1==((L.getD m U8).2.1:Int)+1) else false)=true
  rw[beq_self_eq_true,beq_self_eq_true];rfl
 ·rw[Xg (d:=U8) (by omega)]
  show(bif (nmI (L.getD j U8).1 (L.getD j U8).2.1).toList==(nmI (L.getD m U8).1 (L.getD m U8).2.1).toList then _ else false)=false
  rw[Jo2 hL hj hm];rfl
theorem Jos {L:List Itm} (hL:Jhx L):∀x∈L,0≤Kj (L.map Jmv) (nmI x.1 x.2.1) ((x.2.1:Int)+1)∧Jao (L.map Jmv) (nmI x.1 x.2.1) ((x.2.1:Int)+1)=Jmv x:=fun x hx=>by
 obtain⟨m,hm,rfl⟩:=List.getElem_of_mem hx
 have e1:L[m]=L.getD m U8:=by simp[List.getD_eq_getElem?_getD,hm]
 rw[e1]
 have h:=Jvy hL hm
 refine⟨by omega, ?_⟩
 unfold Jao
 rw[h,Int.toNat_natCast,Xg (d:=U8) hm]
theorem Jop {M:List Met} {u:Int}:∀{L:List Itm},(∀x∈L,0≤Kj M (nmI x.1 x.2.1) ((x.2.1:Int)+1))→Ur M u (L.map Yd)=[]
 |[],_=>rfl
 | x :: L, h => by
  have hx:=h x (List.mem_cons_self ..)
  have e:Jiu M u (Yd x)=[]:=by
   unfold Jiu
   rw[show((Yd x).2.2.2.1.2-(Yd x).2.2.2.1.1).toNat=1 by show(((x.2.1:Int)+2)-((x.2.1:Int)+1)).toNat=1;omega]
   show(bif Jv (Yd x) ((x.2.1:Int)+1)&&(decide ((x.2.1:Int)+1<u)&&decide (Kj M (nmI x.1 x.2.1) ((x.2.1:Int)+1)<0)) then[((Yd x).1,(x.2.1:Int)+1)] else[])++[]=_
   rw[decide_eq_false (show ¬Kj M (nmI x.1 x.2.1) ((x.2.1:Int)+1)<0 by omega),Bool.and_false,Bool.and_false]
   rfl
  rw[List.map_cons,Ur,e,Jop fun y hy=>h y (List.mem_cons_of_mem _ hy)]
  rfl
def evS (n u:Int):Ev:=(n,Jk,[],[u,u],Jz)
theorem Jqp {l:List Ev} {L:List Itm} {tk u:Int} (h:At l (Jcx tk 0 L L.length)) (hl:l.length<900) (hL:Jhx L) (ht:tk≤u) (hu:1≤u∧u≤1000):Ya l (evS ((l.length:Int)+1) u)=0∧At (l++[evS ((l.length:Int)+1) u]) (Jcx u u L L.length):=by
 have hk:(Jk.toList==K3.toList)=false:=by kernel_rfl
 have hc:Jc (evS ((l.length:Int)+1) u)=0:=by
  unfold Jc
  rw[if_neg (by rw[show(evS ((l.length:Int)+1) u).1=(l.length:Int)+1 from rfl,Je.2 (by omega)];simp)]
  rw[show D3 (evS ((l.length:Int)+1) u).2.1=true from by show D3 Jk=true;kernel_rfl,cond_true,show Kz (evS ((l.length:Int)+1) u).2.1=_ from Ut,if_pos ⟨rfl,rfl⟩]
  have a2:Ja ([u,u].map fun n=>Jd n 0 999999999)=0:=by
   simp only[List.map_cons,List.map_nil,Je.2 (show 0≤u∧u≤999999999 by omega)]
   rfl
  rw[show Ja ((evS ((l.length:Int)+1) u).2.2.2.1.map fun n=>Jd n 0 999999999)=0 from a2]
  rfl
 have hm:Ur (L.map Jmv) u (L.map Yd)=[]:=Jop fun x hx=>(Jos hL x hx).1
 have ha:Zw (Jp l).1 (evS ((l.length:Int)+1) u)=0:=by
  rw[show evS ((l.length:Int)+1) u=((l.length:Int)+1,Jk,[],[u,u],Jz) from rfl,Jlc h rfl hk (by show tk≤u;exact ht) (by rw[Ut];rfl) (by rw[Ut];rfl)]
  have e:ckS (Jcx tk 0 L L.length) ((l.length:Int)+1,Jk,[],[u,u],Jz)=Zu 0 (L.map Yd) ((L.take L.length).map Jmv) [] [] [u,u]:=by
   unfold ckS
   rw[show Kz Jk=_ from Ut]
   rfl
  rw[e,List.take_length]
  unfold Zu
  simp only[List.getD_cons_zero,List.getD_cons_succ,hm]
  rw[decide_eq_false (show ¬u≤0 by omega),decide_eq_false (show ¬u<u by omega)]
  rfl
 have:=Ji8 h hl hc hk ha
 have e:Kh (Jcx tk 0 L L.length) (evS ((l.length:Int)+1) u)=Jcx u u L L.length:=by
  have e:(doS (Jcx tk 0 L L.length) (evS ((l.length:Int)+1) u))=F0 (Jcx tk 0 L L.length) (evS ((l.length:Int)+1) u):=by
   unfold doS
   rw[show Kz (evS ((l.length:Int)+1) u).2.1=_ from Ut]
   rfl
  unfold Kh
  rw[e]
  rfl
 rw[e] at this
 exact this
theorem Jt8 {M:List Met} {h:Int}:∀{L:List Itm} {a:H3},(∀x∈L,Jao M (nmI x.1 x.2.1) ((x.2.1:Int)+1)=Jmv x)→Jdh M h (L.map Yd) a=(a.1+ld L h,a.2.1+ld L h,a.2.2+ld L h)
 |[],a,_=>by show a=(a.1+0,a.2.1+0,a.2.2+0);simp
 | x :: L, a, hM => by
  have hx:=hM x (List.mem_cons_self ..)
  rw[List.map_cons,Jdh,Jt8 fun y hy=>hM y (List.mem_cons_of_mem _ hy)]
  unfold Jv9
  rw[Jas,ld]
  by_cases q:h=(x.2.1:Int)+1
  ·rw[decide_eq_true q,cond_true,if_pos q,q,show(Yd x).1=nmI x.1 x.2.1 from rfl,hx]
   show(a.1+x.2.2+_,a.2.1+x.2.2+_,a.2.2+(x.2.2*1-3*(x.2.2-x.2.2))+_)=_
   rw[show x.2.2*1-3*(x.2.2-x.2.2)=x.2.2 by omega]
   rw[Int.add_assoc,Int.add_assoc,Int.add_assoc]
  ·rw[decide_eq_false q,cond_false,if_neg q,Int.zero_add]
theorem Jv8 {l:List Ev} {L:List Itm} {u h:Int} (hA:At l (Jcx u u L L.length)) (hL:Jhx L) (hh:0≤h∧h<u) (hu:u≤1000):Jac l h=0∧D8 l h=(ld L h,ld L h,ld L h):=by
 have e:Jac l h=0:=by
  unfold Jac opE
  rw[if_pos hA.err,Jhr hA,Je.2 (by omega),show(Jcx u u L L.length).2.1=u from rfl,decide_eq_false (by omega)]
  rfl
 refine⟨e, ?_⟩
 unfold D8
 rw[if_pos e,Jhr hA]
 show Jdh ((L.take L.length).map Jmv) h (L.map Yd) (0,0,0)=_
 rw[List.take_length,Jt8 fun x hx=>(Jos hL x hx).2]
 simp
abbrev Pw:=List (Int×Int)
def pw (p:Pw) (i:Nat):Int×Int:=p.getD i (0,0)
def pwI (p:Pw) (b:Bool) (i:Nat):Int:=bif b then(pw p i).2 else(pw p i).1
def one (b:Bool) (i:Nat) (n:Int):List Itm:=if 0<n then[(b,i,n)] else[]
def itm (p:Pw):Nat→List Itm
 |0=>[]
 |k+1=>itm p k++one false k (pwI p false k)++one true k (pwI p true k)
def Hu (p:Pw) (k:Nat):List Itm:=itm p k++one false k (pwI p false k)
structure J25 (p:Pw):Prop where
 len:p.length≤6
 bd:∀b i,0≤pwI p b i∧pwI p b i≤250
theorem Jiq {b:Bool} {i:Nat} {n:Int} {x:Itm} (h:x∈one b i n):x=(b,i,n)∧0<n:=by
 unfold one at h
 by_cases q:0<n
 ·rw[if_pos q] at h;exact⟨List.mem_singleton.1 h,q⟩
 ·rw[if_neg q] at h;cases h
theorem Jir {b:Bool} {i:Nat} {n:Int}:(one b i n).length≤1:=by
 unfold one;split<;>simp
theorem Hk {p:Pw}:∀{k:Nat} {x:Itm},x∈itm p k→x.2.1<k∧x.2.2=pwI p x.1 x.2.1∧0<x.2.2
 |0,_,h=>by cases h
 | k + 1, x, h => by
  rcases List.mem_append.1 h with h|h
  ·rcases List.mem_append.1 h with h|h
   ·have:=Hk h;exact⟨by omega,this.2⟩
   ·obtain⟨rfl,q⟩:=Jiq h;exact⟨Nat.lt_succ_self _,rfl,q⟩
  ·obtain⟨rfl,q⟩:=Jiq h;exact⟨Nat.lt_succ_self _,rfl,q⟩
theorem Jfd {p:Pw} {k:Nat} {x:Itm} (h:x∈Hu p k):x∈itm p k∨x=(false,k,pwI p false k)∧0<pwI p false k:=by
 rcases List.mem_append.1 h with h|h
 ·exact .inl h
 ·exact .inr (Jiq h)
theorem Jfc {p:Pw}:∀{k:Nat},(itm p k).length≤2*k
 |0=>Nat.le_refl _
 |k+1=>by
  have h0:=Jfc (p:=p) (k:=k)
  have h1:=Jir (b:=false) (i:=k) (n:=pwI p false k)
  have h2:=Jir (b:=true) (i:=k) (n:=pwI p true k)
  unfold itm
  rw[List.length_append,List.length_append]
  omega
theorem Jt5 {p:Pw}:∀{k:Nat},((itm p k).map fun x=>(x.1,x.2.1)).Nodup∧((Hu p k).map fun x=>(x.1,x.2.1)).Nodup:=by
 have add:∀{l:List Itm} {b:Bool} {i:Nat} {n:Int},(l.map fun x=>(x.1,x.2.1)).Nodup→(∀x∈l,(x.1,x.2.1)≠(b,i))→((l++one b i n).map fun x=>(x.1,x.2.1)).Nodup:=by
  intro l b i n h1 h2
  unfold one
  split
  ·rw[List.map_append]
   refine List.nodup_append.2 ⟨h1,by simp, ?_⟩
   intro a ha c hc
   obtain⟨x,hx,rfl⟩:=List.mem_map.1 ha
   have:c=(b,i):=by simpa using hc
   rw[this]
   exact h2 x hx
  ·rw[List.append_nil];exact h1
 have hH:∀{k:Nat},((itm p k).map fun x=>(x.1,x.2.1)).Nodup→((Hu p k).map fun x=>(x.1,x.2.1)).Nodup:=fun{k} h=>add h fun x hx e=>by
  have:=(Hk hx).1
  have:x.2.1=k:=congrArg Prod.snd e
  omega
 have hI:∀k,((itm p k).map fun x=>(x.1,x.2.1)).Nodup:=by
  intro k
  induction k with
  |zero=>exact List.nodup_nil
  | succ k ih =>
   show(((Hu p k)++one true k (pwI p true k)).map fun x=>(x.1,x.2.1)).Nodup
   refine add (hH ih) fun x hx e=> ?_
   rcases Jfd hx with h|⟨h,_⟩
   ·have:=(Hk h).1
    have:x.2.1=k:=congrArg Prod.snd e
    omega
   ·rw[h] at e;cases e
 exact fun{k}=>⟨hI k,hH (hI k)⟩
theorem Jo6 {p:Pw} {k:Nat} (hp:J25 p) (hk:k≤p.length):Jhx (itm p k)∧(k<p.length→Jhx (Hu p k)):=by
 have hl:=hp.len
 have h0:∀x∈itm p k,Jmr x:=fun x hx=>by
  obtain⟨h1,h2,h3⟩:=Hk hx
  have:=hp.bd x.1 x.2.1
  exact⟨by omega,by omega⟩
 have hn:=Jfc (p:=p) (k:=k)
 refine⟨⟨h0,Jt5.1,by omega⟩,fun hk=>⟨fun x hx=> ?_,Jt5.2, ?_⟩⟩
 ·rcases Jfd hx with h|⟨rfl,q⟩
  ·exact h0 x h
  ·have:=hp.bd false k
   exact⟨by show k<6;omega,by show 1≤pwI p false k∧pwI p false k≤250;omega⟩
 ·have:=Jir (b:=false) (i:=k) (n:=pwI p false k)
  unfold Hu
  rw[List.length_append];omega
theorem Jkh {h:Int}:∀{a b:List Itm},ld (a++b) h=ld a h+ld b h
 |[],b=>by show ld b h=0+ld b h;omega
 |x::a,b=>by
  show(if h=(x.2.1:Int)+1 then x.2.2 else 0)+ld (a++b) h=(if h=(x.2.1:Int)+1 then x.2.2 else 0)+ld a h+ld b h
  rw[Jkh];omega
theorem Jo0 {b:Bool} {i:Nat} {n h:Int} (h0:0≤n):ld (one b i n) h=if h=(i:Int)+1 then n else 0:=by
 unfold one
 by_cases q:0<n
 ·rw[if_pos q];show(if h=(i:Int)+1 then n else 0)+0=_;omega
 ·rw[if_neg q]
  have:n=0:=by omega
  subst this
  show(0:Int)=_
  split<;>rfl
theorem Jo1 {p:Pw} (hp:J25 p) {i:Nat}:∀{k:Nat},ld (itm p k) ((i:Int)+1)=if i<k then pwI p false i+pwI p true i else 0
 |0=>by rw[if_neg (by omega)];rfl
 | k + 1 => by
  show ld (itm p k++one false k (pwI p false k)++one true k (pwI p true k)) _=_
  rw[Jkh,Jkh,Jo0 (hp.bd false k).1,Jo0 (hp.bd true k).1,Jo1 hp]
  by_cases q:i=k
  ·subst q
   rw[if_neg (by omega),if_pos rfl,if_pos rfl,if_pos (by omega)];omega
  ·rw[if_neg (show ¬(i:Int)+1=(k:Int)+1 by omega),if_neg (show ¬(i:Int)+1=(k:Int)+1 by omega)]
   by_cases q2:i<k
   ·rw[if_pos q2,if_pos (by omega)];omega
   ·rw[if_neg q2,if_neg (by omega)];rfl
theorem Jj2 {p:Pw} {k:Nat} (hp:J25 p) (hk:k<p.length) (h:At (jrI (itm p k)) (Lm (itm p k))):
  (0<pwI p false k→Ya (jrI (itm p k)) (evI (((jrI (itm p k)).length:Int)+1) (false,k,pwI p false k))=0∧jrI (Hu p k)=jrI (itm p k)++[evI (((jrI (itm p k)).length:Int)+1) (false,k,pwI p false k)])∧
  (¬0<pwI p false k→jrI (Hu p k)=jrI (itm p k))∧
  (0<pwI p true k→Ya (jrI (Hu p k)) (evI (((jrI (Hu p k)).length:Int)+1) (true,k,pwI p true k))=0∧jrI (itm p (k+1))=jrI (Hu p k)++[evI (((jrI (Hu p k)).length:Int)+1) (true,k,pwI p true k)])∧
  (¬0<pwI p true k→jrI (itm p (k+1))=jrI (Hu p k))∧At (jrI (itm p (k+1))) (Lm (itm p (k+1))):=by
 have hl:=hp.len
 obtain⟨i1,i2⟩:=Jo6 hp (Nat.le_of_lt hk)
 have i2:=i2 hk
 have b1:=hp.bd false k
 have b2:=hp.bd true k
 have l0:ld (itm p k) ((k:Int)+1)=0:=by rw[Jo1 hp,if_neg (by omega)]
 have l1:ld (Hu p k) ((k:Int)+1)≤250:=by unfold Hu;rw[Jkh,l0,Jo0 b1.1,if_pos rfl];omega
 have n1:∀y∈itm p k,(y.1,y.2.1)≠(false,k):=fun y hy e=>by
  have:=(Hk hy).1
  have:y.2.1=k:=congrArg Prod.snd e
  omega
 have n2:∀y∈Hu p k,(y.1,y.2.1)≠(true,k):=fun y hy e=>by
  rcases Jfd hy with h|⟨h,_⟩
  ·have:=(Hk h).1
   have:y.2.1=k:=congrArg Prod.snd e
   omega
  ·rw[h] at e;cases e
 have eH:0<pwI p false k→Hu p k=itm p k++[(false,k,pwI p false k)]:=fun q=>by unfold Hu one;rw[if_pos q]
 have eH0:¬0<pwI p false k→Hu p k=itm p k:=fun q=>by unfold Hu one;rw[if_neg q,List.append_nil]
 have eK:0<pwI p true k→itm p (k+1)=Hu p k++[(true,k,pwI p true k)]:=fun q=>by show Hu p k++one true k (pwI p true k)=_;unfold one;rw[if_pos q]
 have eK0:¬0<pwI p true k→itm p (k+1)=Hu p k:=fun q=>by show Hu p k++one true k (pwI p true k)=_;unfold one;rw[if_neg q,List.append_nil]
 have a1:0<pwI p false k→Ya (jrI (itm p k)) (evI (((jrI (itm p k)).length:Int)+1) (false,k,pwI p false k))=0∧At (jrI (Hu p k)) (Lm (Hu p k)):=fun q=>by
  rw[eH q]
  exact Jk4 (x:=(false,k,pwI p false k)) h i1 ⟨by show k<6;omega,by show 1≤pwI p false k∧pwI p false k≤250;omega⟩ n1 (by show ld (itm p k) ((k:Int)+1)≤750;omega)
 have hH:At (jrI (Hu p k)) (Lm (Hu p k)):=by
  by_cases q:0<pwI p false k
  ·exact(a1 q).2
  ·rw[eH0 q];exact h
 have a2:0<pwI p true k→Ya (jrI (Hu p k)) (evI (((jrI (Hu p k)).length:Int)+1) (true,k,pwI p true k))=0∧At (jrI (itm p (k+1))) (Lm (itm p (k+1))):=fun q=>by
  rw[eK q]
  exact Jk4 (x:=(true,k,pwI p true k)) hH i2 ⟨by show k<6;omega,by show 1≤pwI p true k∧pwI p true k≤250;omega⟩ n2 (by show ld (Hu p k) ((k:Int)+1)≤750;omega)
 refine⟨fun q=>⟨(a1 q).1,by rw[eH q,Jfa]⟩,fun q=>by rw[eH0 q],fun q=>⟨(a2 q).1,by rw[eK q,Jfa]⟩,fun q=>by rw[eK0 q], ?_⟩
 by_cases q:0<pwI p true k
 ·exact(a2 q).2
 ·rw[eK0 q];exact hH
theorem Jo5 {p:Pw} (hp:J25 p):∀{k:Nat},k≤p.length→At (jrI (itm p k)) (Lm (itm p k))
 |0,_=>J06
 |k+1,h=>(Jj2 hp (by omega) (Jo5 hp (by omega))).2.2.2.2
def Jl5 (p:Pw) (s:ByteArray):Nat→Int
 |0=>0
 |j+1=>bif s.toList==(nmI false j).toList then(pw p j).1 else bif s.toList==(nmI true j).toList then(pw p j).2 else Jl5 p s j
theorem Jn7 {p:Pw} {b:Bool} {i:Nat} (hi:i<6):∀{j:Nat},j≤6→Jl5 p (nmI b i) j=if i<j then pwI p b i else 0
 |0,_=>by rw[if_neg (by omega)];rfl
 | j + 1, h => by
  have ih:=Jn7 (p:=p) (b:=b) hi (j:=j) (by omega)
  unfold Jl5
  rw[Jsf b false i j hi (by omega),Jsf b true i j hi (by omega),ih]
  by_cases q:i=j
  ·subst q
   have e:(if i<i+1 then pwI p b i else 0)=pwI p b i:=if_pos (Nat.lt_succ_self i)
   rw[e,beq_self_eq_true]
   cases b<;>rfl
  ·have e:(i==j)=false:=by simpa using q
   rw[e,Bool.and_false,Bool.and_false,cond_false,cond_false]
   by_cases q2:i<j
   ·rw[if_pos q2,if_pos (by omega)]
   ·rw[if_neg q2,if_neg (by omega)]
def tkL (f:Nat→Int) (n:Nat):List (Int×Int):=(List.range n).map fun i:Nat=>((i:Int)+1,f i)
theorem Jjr {f:Nat→Int} {n:Nat}:(tkL f n).length=n:=by unfold tkL;rw[List.length_map,List.length_range]
theorem Kjc {f g:Nat→Int}:∀n,n≤6→Jbp (tkL f n) (tkL g n)=tkL (fun i=>f i+g i) n
 |0,_=>by kernel_rfl
 |1,_=>by kernel_rfl
 |2,_=>by kernel_rfl
 |3,_=>by kernel_rfl
 |4,_=>by kernel_rfl
 |5,_=>by kernel_rfl
 |6,_=>by kernel_rfl
 |n+7,h=>absurd h (by omega)
theorem Jzp {f:Nat→Int} (hf:∀i,0≤f i∧f i≤1000):∀(n s:Nat) (last:Int),last≤s→s+n≤1000→K9 ((List.range' s n).map fun i:Nat=>((i:Int)+1,f i)) last=0
 |0,_,_,_,_=>rfl
 |n+1,s,last,h1,h2=>by
  have:=hf s
  rw[List.range'_succ,List.map_cons]
  show(if Ja [Jd ((s:Int)+1) 0 100000,Jd (f s) (-1000) 1000,bif decide ((s:Int)+1≤last) then 11 else 0]≠0 then _ else K9 ((List.range' (s+1) n).map fun i:Nat=>((i:Int)+1,f i)) ((s:Int)+1))=0
  rw[Je.2 (show 0≤(s:Int)+1∧(s:Int)+1≤100000 by omega),Je.2 (show -1000≤f s∧f s≤1000 by omega),decide_eq_false (show ¬(s:Int)+1≤last by omega)]
  rw[if_neg (by simp[Ja])]
  exact Jzp hf n (s+1) _ (by omega) (by omega)
theorem Joc {f:Nat→Int} {n:Nat} (hf:∀i,0≤f i∧f i≤1000) (hn:n≤6):Kk (tkL f n)=0:=by
 unfold Kk
 rw[if_neg (by rw[Jjr];omega)]
 unfold tkL
 rw[List.range_eq_range']
 exact Jzp hf n 0 (-1) (by omega) (by omega)
theorem Jpa {α:Type} {p:α→Bool}:∀{l:List α} {k:Int},(∀x∈l,p x=false)→idxSF p l k= -1
 |[],_,_=>rfl
 |x::l,k,h=>by
  unfold idxSF
  rw[if_neg (by rw[h x (List.mem_cons_self ..)];simp)]
  exact Jpa fun y hy=>h y (List.mem_cons_of_mem _ hy)
theorem Jot {f g:Nat→Int} {n:Nat} (hf:∀i,0≤f i∧f i≤250) (hg:∀i,0≤g i∧g i≤250) (hn:n≤6):Ua (tkL f n) (tkL g n)=(tkL (fun i=>f i+g i) n,0):=by
 have e1:La (tkL f n) (tkL g n)=0:=by
  unfold La
  rw[Joc (fun i=>by have:=hf i;omega) hn,Joc (fun i=>by have:=hg i;omega) hn];rfl
 have e2:Lq (tkL f n) (tkL g n)=0:=by
  unfold Lq
  rw[Kjc n hn,Jjr,decide_eq_false (by omega),Jpa fun x hx=> ?_]
  ·rfl
  ·obtain⟨i,_,rfl⟩:=List.mem_map.1 hx
   have h1:=hf i
   have h2:=hg i
   show(Jd (f i+g i) (-1000) 1000 !=0)=false
   rw[Je.2 (by omega)];rfl
 unfold Ua
 rw[if_neg (by rw[e1];simp),if_neg (by rw[e2];simp),Kjc n hn]
abbrev rl:Int×Int×Int:=(1000,0,1000)
def stp (f:Nat→Int) (i:Nat):StT:=(((i:Int)+1,f i),(if i=0 then 0 else f (i-1)),(i:Int))
theorem Jjs {f:Nat→Int}:∀n,n≤6→Jw 0 (tkL f n)=(List.range n).map (stp f)
 |0,_=>by kernel_rfl
 |1,_=>by kernel_rfl
 |2,_=>by kernel_rfl
 |3,_=>by kernel_rfl
 |4,_=>by kernel_rfl
 |5,_=>by kernel_rfl
 |6,_=>by kernel_rfl
 |n+7,h=>absurd h (by omega)
theorem Jz5 {f:Nat→Int} {n t:Nat} (hn:n≤6) (ht:t≤n) (h1:1≤n):idxSF (fun s:StT=>decide ((t:Int)≤s.1.1)) ((List.range n).map (stp f)) 0=((t-1:Nat):Int):=by
 have h:((List.range 7).all fun n=>(List.range (n+1)).all fun t=>n==0||idxSF (fun s:StT=>decide ((t:Int)≤s.1.1)) ((List.range n).map (stp f)) 0==((t-1:Nat):Int))=true:=by kernel_rfl
 have h2:=List.all_eq_true.1 (List.all_eq_true.1 h n (List.mem_range.2 (by omega))) t (List.mem_range.2 (by omega))
 have h3:(n==0)=false:=by simpa using(by omega:n≠0)
 rw[h3,Bool.false_or] at h2
 exact eq_of_beq h2
theorem Jvh {f:Nat→Int} {n:Nat} (hf:∀i,0≤f i∧f i≤500) (hn:n≤6) (h1:1≤n):(Vf rl 0 (tkL f n) ((n:Int)+1)).2=0∧(Vf rl 0 (tkL f n) ((n:Int)+1)).1.length=n+1∧(Vf rl 0 (tkL f n) ((n:Int)+1)).1.getD 0 0=0∧∀i,i<n→(Vf rl 0 (tkL f n) ((n:Int)+1)).1.getD (i+1) 0=f i:=by
 have e1:Fm rl 0 (tkL f n) ((n:Int)+1)=0:=by
  unfold Fm Jeu
  rw[Joc (fun i=>by have:=hf i;omega) hn,Je.2 (show 1≤(n:Int)+1∧(n:Int)+1≤256 by omega)]
  kernel_rfl
 have e2:Jvg rl 0 (tkL f n)=0:=by
  unfold Jvg
  rw[Jjs n hn]
  refine Go.Proofs.YtdpcaknnhcnkpaaGreat.firstS_zero.2 fun x hx=> ?_
  obtain⟨s,hs,rfl⟩:=List.mem_map.1 hx
  obtain⟨i,_,rfl⟩:=List.mem_map.1 hs
  have q1:=hf i
  have q2:=hf (i-1)
  unfold Ze Jcn stp
  dsimp only
  have q3:∀c:Int,0≤c∧c≤500→¬(1000*((i:Int)+1-(i:Int))<max (f i-c) (c-f i)):=fun c hc=>by omega
  rw[decide_eq_false (show ¬f i<0 by omega),decide_eq_false (show ¬1000<f i by omega)]
  split
  ·rw[decide_eq_false (q3 0 (by omega))];rfl
  ·rw[decide_eq_false (q3 _ q2)];rfl
 have e3:Vf rl 0 (tkL f n) ((n:Int)+1)=(Xv rl 0 (tkL f n) (n+1),0):=by
  unfold Vf
  rw[if_neg (by rw[e1];simp),if_neg (by rw[e2];simp)]
  rfl
 have val:∀t,t≤n→Jdx rl 0 (tkL f n) (t:Int)=if t=0 then 0 else f (t-1):=fun t ht=>by
  unfold Jdx
  rw[Jjs n hn]
  dsimp only
  rw[Jz5 hn ht h1,if_pos (by omega),Int.toNat_natCast]
  have e:((List.range n).map (stp f)).getD (t-1) ((0,0),0,0)=stp f (t-1):=by
   rw[List.getD_eq_getElem?_getD,List.getElem?_map,List.getElem?_range (by omega)];rfl
  rw[e]
  have q1:=hf (t-1)
  have q2:=hf (t-1-1)
  unfold Hd stp
  dsimp only
  by_cases q:t=0
  ·subst q
   rw[if_pos rfl]
   show(bif decide (0<f 0) then max 0 (f 0-1000*(((0:Nat):Int)+1-0)) else min 0 (f 0+1000*(((0:Nat):Int)+1-0)))=0
   have q1:=hf 0
   by_cases q3:0<f 0
   ·rw[decide_eq_true q3,cond_true];omega
   ·rw[decide_eq_false q3,cond_false];omega
  ·rw[if_neg q]
   have c:∀c:Int,(bif decide (c<f (t-1)) then max c (f (t-1)-1000*(((t-1:Nat):Int)+1-(t:Int))) else min c (f (t-1)+1000*(((t-1:Nat):Int)+1-(t:Int))))=f (t-1):=fun c=>by
    have e5:((t-1:Nat):Int)+1-(t:Int)=0:=by omega
    rw[e5]
    by_cases q3:c<f (t-1)
    ·rw[decide_eq_true q3,cond_true];omega
    ·rw[decide_eq_false q3,cond_false];omega
   exact c _
 have get:∀t,t≤n→(Xv rl 0 (tkL f n) (n+1)).getD t 0=Jdx rl 0 (tkL f n) (t:Int):=fun t ht=>by
  unfold Xv
  rw[List.getD_eq_getElem?_getD,List.getElem?_map,List.getElem?_range (by omega)];rfl
 rw[e3]
 refine⟨rfl,Jgu, ?_,fun i hi=> ?_⟩
 ·rw[get 0 (by omega),val 0 (by omega)];rfl
 ·rw[get (i+1) (by omega),val (i+1) (by omega),if_neg (by omega)];rfl
def pm (x:List (Int×Int)):Pw:=x.map fun v=>(v.1.tmod 251,v.2.tmod 251)
def Jdb (f:Nat→Int) (k:Nat):List Int:=(List.range k).map f
abbrev fM (x:List (Int×Int)) (i:Nat):Int:=pwI (pm x) false i
abbrev gM (x:List (Int×Int)) (i:Nat):Int:=pwI (pm x) true i
abbrev hM (x:List (Int×Int)) (i:Nat):Int:=fM x i+gM x i
abbrev iM (x:List (Int×Int)):List Itm:=itm (pm x) x.length
abbrev uM (x:List (Int×Int)):Int:=(x.length:Int)+1
abbrev rM (x:List (Int×Int)):List Int:=(Vf rl 0 (tkL (hM x) x.length) (uM x)).1
abbrev mM (x:List (Int×Int)):List Gap:=(Xp (jrI (iM x)) (uM x)).1
def jrM (u:Int) (L:List Itm) (m:Nat):List Ev:=(L.take m).foldl (fun l y=>l++[evM ((l.length:Int)+1) u y]) (jrI L)
abbrev jS (x:List (Int×Int)):List Ev:=jrM (uM x) (iM x) (iM x).length++[evS (((jrM (uM x) (iM x) (iM x).length).length:Int)+1) (uM x)]
abbrev Fy:Gap:=(Jz,0)
abbrev xBd (x:List (Int×Int)):Prop:=∀v∈x,(0≤v.1∧v.1<256)∧0≤v.2∧v.2<256
theorem Jn9 {x:List (Int×Int)}:(pm x).length=x.length:=List.length_map ..
theorem Joa {x:List (Int×Int)} {k:Nat}:fM x k=(x.getD k (0,0)).1.tmod 251∧gM x k=(x.getD k (0,0)).2.tmod 251:=by
 have e:pw (pm x) k=((x.getD k (0,0)).1.tmod 251,(x.getD k (0,0)).2.tmod 251):=by
  unfold pw pm
  rw[List.getD_eq_getElem?_getD,List.getElem?_map,List.getD_eq_getElem?_getD]
  cases x[k]? <;>rfl
 exact⟨congrArg Prod.fst e,congrArg Prod.snd e⟩
theorem Jzg {n:Int} (h:0≤n∧n<256):0≤n.tmod 251∧n.tmod 251≤250:=by
 rw[Int.tmod_eq_emod_of_nonneg h.1];omega
theorem J7d {x:List (Int×Int)} (h:xBd x) (k:Nat):(0≤(x.getD k (0,0)).1∧(x.getD k (0,0)).1<256)∧0≤(x.getD k (0,0)).2∧(x.getD k (0,0)).2<256:=by
 by_cases q:k<x.length
 ·exact h _ (Jf q)
 ·rw[List.getD_eq_getElem?_getD,List.getElem?_eq_none (by omega)];decide
theorem Jzm {x:List (Int×Int)} (h:xBd x) (hl:x.length≤6):J25 (pm x):=⟨by rw[Jn9];exact hl,fun b i=>by
 have hb:=J7d h i
 cases b
 ·rw[show pwI (pm x) false i=fM x i from rfl,Joa.1];exact Jzg hb.1
 ·rw[show pwI (pm x) true i=gM x i from rfl,Joa.2];exact Jzg hb.2⟩
theorem Jvr {b:Bool} {i:Nat} (h:i≤1000):(nmI b i).size≤1000000:=by
 have:=Lj (i:Int) (by omega) (by omega)
 show(nmI b i).data.toList.length≤_
 have:(Lib.itoa (i:Int)).length≤21:=this
 show(Lib.itoa (i:Int)).length+1≤_
 omega
theorem Jpn {n:Int} {x:Itm} (h:x.2.1<6):Dk (evI n x):=⟨by show(3:Nat)≤_;decide,by show(4:Nat)≤_;decide,fun s hs=>by
 have hs:s=nmI x.1 x.2.1∨s=vA1∨s=vB1:=by simpa[evI] using hs
 rcases hs with rfl|rfl|rfl
 ·exact Jvr (by omega)
 ·decide
 ·decide⟩
theorem Jz7 {n u:Int} {x:Itm} (h:x.2.1<6):Dk (evM n u x):=⟨by show(1:Nat)≤_;decide,by show(4:Nat)≤_;decide,fun s hs=>by
 have hs:s=nmI x.1 x.2.1:=by simpa[evM] using hs
 subst hs
 exact Jvr (by omega)⟩
theorem Jki {l:List Ev} {e:Ev} (h:lOk l) (hl:l.length<900) (he:Dk e):lOk (l++[e]):=⟨by rw[List.length_append,List.length_singleton];omega,fun a ha=>by
 rcases List.mem_append.1 ha with ha|ha
 ·exact h.2 a ha
 ·rw[List.mem_singleton.1 ha];exact he⟩
theorem Jw4:lOk Zl:=⟨by decide,fun e he=>by
 have:(Zl.all fun e=>decide (e.2.2.1.length≤1000000)&&decide (e.2.2.2.1.length≤1000000)&&e.2.2.1.all fun s=>decide (s.size≤1000000))=true:=by kernel_rfl
 have h:=List.all_eq_true.1 this e he
 simp only[Bool.and_eq_true] at h
 exact⟨of_decide_eq_true h.1.1,of_decide_eq_true h.1.2,fun s hs=>of_decide_eq_true (List.all_eq_true.1 h.2 s hs)⟩⟩
theorem Jkk {L:List Itm} (hL:∀x∈L,x.2.1<6) (hn:L.length≤100):lOk (jrI L):=by
 have go:∀n,n≤L.length→lOk (jrI (L.take n)):=by
  intro n
  induction n with
  |zero=>intro _;exact Jw4
  |succ n ih=>
   intro h
   rw[Fa (d:=U8) (by omega),Jfa]
   refine Jki (ih (by omega)) ?_ (Jpn (hL _ (Jf (by omega))))
   rw[Jd6,List.length_take];omega
 have:=go L.length (Nat.le_refl _)
 rwa[List.take_length] at this
theorem Jap {u:Int} {L:List Itm} {m:Nat} (h:m<L.length):jrM u L (m+1)=jrM u L m++[evM (((jrM u L m).length:Int)+1) u (L.getD m U8)]:=by
 unfold jrM
 rw[Fa (d:=U8) h,List.foldl_append]
 rfl
theorem Jsq {u:Int} {L:List Itm}:jrM u L 0=jrI L:=rfl
theorem Jfb {u:Int} {L:List Itm}:∀{m:Nat},m≤L.length→(jrM u L m).length=3+L.length+m
 |0,_=>by rw[Jsq,Jd6];rfl
 |m+1,h=>by rw[Jap (by omega),List.length_append,Jfb (by omega),List.length_singleton];omega
theorem Jo4 {u:Int} {L:List Itm} (hL:∀x∈L,x.2.1<6) (hn:L.length≤100):∀{m:Nat},m≤L.length→lOk (jrM u L m)
 |0,_=>Jkk hL hn
 |m+1,h=>by
  rw[Jap (by omega)]
  exact Jki (Jo4 hL hn (by omega)) (by rw[Jfb (by omega)];omega) (Jz7 (hL _ (Jf (by omega))))
def tkM (u:Int) (m:Nat):Int:=if m=0 then 0 else u
theorem Jz3 {u:Int} {L:List Itm} (h:At (jrI L) (Lm L)) (hL:Jhx L) (hu:7≤u+6∧u≤1000) (hx:∀x∈L,(x.2.1:Int)+1<u):∀{m:Nat},m≤L.length→At (jrM u L m) (Jcx (tkM u m) 0 L m)∧(m<L.length→Ya (jrM u L m) (evM (((jrM u L m).length:Int)+1) u (L.getD m U8))=0):=by
 have hlen:=hL.len
 have one:∀{m:Nat},m<L.length→At (jrM u L m) (Jcx (tkM u m) 0 L m)→Ya (jrM u L m) (evM (((jrM u L m).length:Int)+1) u (L.getD m U8))=0∧At (jrM u L (m+1)) (Jcx u 0 L (m+1)):=fun{m} hm hA=>by
  rw[Jap hm]
  refine Js9 hA (by rw[Jfb (by omega)];omega) hL hm ?_ ⟨hx _ (Jf hm),hu.2⟩
  unfold tkM;split<;>omega
 have go:∀m,m≤L.length→At (jrM u L m) (Jcx (tkM u m) 0 L m):=by
  intro m
  induction m with
  |zero=>intro _;exact h
  |succ m ih=>intro hm;exact(one (by omega) (ih (by omega))).2
 exact fun{m} hm=>⟨go m hm,fun hlt=>(one hlt (go m hm)).1⟩
theorem Jnh {f:Nat→Int} {n k:Nat} (h:k<n):(Jdb f n).getD k 0=f k:=by
 unfold Jdb
 rw[List.getD_eq_getElem?_getD,List.getElem?_map,List.getElem?_range h];rfl
theorem Jzh {f:Nat→Int} {n k:Nat} (h:k<n):(tkL f n).getD k (0,0)=((k:Int)+1,f k):=by
 unfold tkL
 rw[List.getD_eq_getElem?_getD,List.getElem?_map,List.getElem?_range h];rfl
theorem Jne {f:Nat→Int} {n:Nat}:tkL f (n+1)=tkL f n++[((n:Int)+1,f n)]:=by
 unfold tkL
 rw[List.range_succ,List.map_append];rfl
theorem Jrw {f:Nat→Int} {n:Nat}:Jdb f (n+1)=Jdb f n++[f n]:=by
 unfold Jdb
 rw[List.range_succ,List.map_append];rfl
theorem Jng {f:Nat→Int} {n:Nat}:(Jdb f n).length=n:=by unfold Jdb;rw[List.length_map,List.length_range]
structure Mkt (x:List (Int×Int)):Prop where
 at0:∀{k:Nat},k≤x.length→At (jrI (itm (pm x) k)) (Lm (itm (pm x) k))
 its:Jhx (iM x)
 sm:∀y∈iM x,y.2.1<x.length∧y.2.2=pwI (pm x) y.1 y.2.1∧0<y.2.2
 fb:∀i,0≤fM x i∧fM x i≤250
 gb:∀i,0≤gM x i∧gM x i≤250
 ld:∀{i:Nat},i<x.length→ld (iM x) ((i:Int)+1)=hM x i
theorem mkt {x:List (Int×Int)} (h:xBd x) (hl:x.length≤6):Mkt x:=by
 have hp:=Jzm h hl
 have hpl:=Jn9 (x:=x)
 refine⟨fun{k} hk=>Jo5 hp (by omega),(Jo6 hp (by omega)).1,fun y hy=> ?_,fun i=>hp.bd false i,fun i=>hp.bd true i,fun{i} hi=> ?_⟩
 ·exact Hk hy
 ·show Go.Proofs.YtdpcaknnhcnkpaaGreat.ld (itm (pm x) x.length) _=_
  rw[Jo1 hp,if_pos hi]
theorem J0a:∀n,n<3→Ya (Zl.take n) (Zl.getD n ev0)=0:=fun n h=>by
 have:((List.range 3).all fun n=>Ya (Zl.take n) (Zl.getD n ev0)==0)=true:=by kernel_rfl
 exact eq_of_beq (List.all_eq_true.1 this n (List.mem_range.2 h))
theorem Jua:∀e∈Zl,Dk e:=fun e he=>by
 have:(Zl.all fun e=>decide (e.2.2.1.length≤1000000)&&decide (e.2.2.2.1.length≤1000000)&&e.2.2.1.all fun s=>decide (s.size≤1000000))=true:=by kernel_rfl
 have h:=List.all_eq_true.1 this e he
 simp only[Bool.and_eq_true] at h
 exact⟨of_decide_eq_true h.1.1,of_decide_eq_true h.1.2,fun s hs=>of_decide_eq_true (List.all_eq_true.1 h.2 s hs)⟩
theorem Jfn:Zl.length=3:=by kernel_rfl
theorem Jwg (n:Nat):lOk (Zl.take n):=⟨by have:=Jfn;rw[List.length_take];omega,fun e he=>Jua e (List.mem_of_mem_take he)⟩
def J93:Yb:={T? :=some 24,s:= .list 67 sEv,args:=[aS, .val false (.list 3 sI), .val false (.list 9 .str)],ress:=[Bo],pre:=fun l (k,vs,ns,_)=>[l=Zl.take l.length,l.length<3,Vq l k vs ns=Zl.getD l.length ev0],spec:=fun _ _=>(true,()),post:=fun l _=>Zl.take (l.length+1)}
theorem J75:Ok Tryz.prog 6 (Yb.con J93):=Ye (Jez (c:=Jx9) Jvm fun x y hp=>by
 obtain⟨l1,l2,l3⟩:=hp
 obtain⟨k,vs,ns,_⟩:=y
 have l3:Vq x k vs ns=Zl.getD x.length ev0:=l3
 have hn:x.length<3:=l2
 have l1:x=Zl.take x.length:=l1
 generalize x.length=n at l1 l2 l3 hn
 subst l1
 have ha:Ya (Zl.take n) (Vq (Zl.take n) k vs ns)=0:=by rw[l3];exact J0a n hn
 have hz:Dk (Vq (Zl.take n) k vs ns):=by rw[l3];exact Jua _ (Jf (d:=ev0) (by rw[Jfn];exact hn))
 have hl:(Zl.take n).length=n:=by rw[List.length_take,Jfn];omega
 refine⟨⟨Jwg n,by show(Zl.take n).length≤900;omega,hz.2.1,hz.1,hz.2.2⟩, ?_, ?_⟩
 ·show(true,())=(Ya _ _==0,())
  rw[ha];rfl
 ·show Zl.take (n+1)=Jmj (Zl.take n) (Vq (Zl.take n) k vs ns)
  unfold Jmj
  rw[if_pos ha,l3]
  exact(Ys (d:=ev0) (by rw[Jfn];exact hn)).symm)
abbrev Kjq:=Km2.add J75
def Kab:Con:={args:=[aI],ress:=[(false, .list 67 sEv),Bo],owns:=[true,false],pre:=fun(p,_)=>[p=1],spec:=fun _=>(Zl,true,())}
def Z8:=List.take 1 Zl
def Z12:=List.take 2 Zl
def Kis:=Z8=Z8
theorem ok5:Ok Tryz.prog 5 Kab:=Jvl Kjq Tryz.f5 (Un (l:=([]:List (Nat×Func))) (by simp)) (fun xx=>na ()) (fun xx=>fun _=>na ()) fun xx=>by
 obtain⟨(p:Int),_⟩:=xx
 refine(by kernel_rfl:(p=(1:Int)→(([]:List Ev)=[]∧(0:Nat)<(3:Nat)∧J5m=List.getD Zl (0:Nat) ev0)∧Br true ((Kis∧(1:Nat)<(3:Nat)∧Vq Z8 J1 Z62 Jyx=List.getD Zl (1:Nat) ev0)∧Br true ((Z12=Z12∧(2:Nat)<(3:Nat)∧Vq Z12 Uh [(0:Int),p] Jtk=List.getD Zl (2:Nat) ev0)∧Sf true (List.take (3:Nat) Zl=Zl∧true=true)) (Sf true (Z12=Zl∧false=true))) (Br false ((Kis∧(1:Nat)<(3:Nat)∧Vq Z8 Uh [(0:Int),p] Jtk=List.getD Zl (1:Nat) ev0)∧Sf true (Z12=Zl∧true=true)) (Sf true (Z8=Zl∧false=true))))=_).mp ?_
 delta Z8 Z12 Z62 Jxu Jxt Kis Jyx Jtk J5m Br Sf Uh J1
 intro h
 subst h
 simp only[reduceCtorEq,false_implies,true_implies,and_self,true_and,and_true,implies_true]
 repeat' first|exact(by decide:(0:Nat)<3)|exact(by decide:(1:Nat)<3)|exact(by decide:(2:Nat)<3)|apply And.intro|kernel_rfl
abbrev Km1:=Kjq.add ok5
def Kmu:Yb:={T? :=some 24,s:= .list 67 sEv,args:=[aS, .val false (.list 3 sI), .val false (.list 9 .str)],ress:=[Bo],pre:=fun l (k,vs,ns,_)=>[lOk l,l.length≤900,vs.length≤1000000,ns.length≤1000000,∀s∈ns,s.size≤1000000,Ya l (Vq l k vs ns)=0],spec:=fun _ _=>(true,()),post:=fun l (k,vs,ns,_)=>l++[Vq l k vs ns]}
theorem Kk2:Ok Tryz.prog 6 (Yb.con Kmu):=Ye (Jez (c:=Jx9) Jvm fun x y hp=>by
 obtain⟨l1,l2,l3,l4,l5,l6⟩:=hp
 obtain⟨k,vs,ns,_⟩:=y
 have l6:Ya x (Vq x k vs ns)=0:=l6
 refine⟨⟨l1,l2,l3,l4,l5⟩, ?_, ?_⟩
 ·show(true,())=(Ya _ _==0,())
  rw[l6];rfl
 ·have q:∀(l:List Ev),Ya l (Vq l k vs ns)=0→l++[Vq l k vs ns]=Jmj l (Vq l k vs ns):=fun l h=>by unfold Jmj;rw[if_pos h]
  exact q x l6)
abbrev Kjp:=Km1.add Kk2
def Kmw:Con:={args:=[.val false (.list 67 sEv),aS, .val false (.list 3 sI), .val false (.list 9 .str)],ress:=[I],owns:=[],pre:=fun(l,k,vs,ns,_)=>[lOk l,l.length≤900,vs.length≤1000000,ns.length≤1000000,∀s∈ns,s.size≤1000000],spec:=fun(l,k,vs,ns,_)=>(Ya l (Vq l k vs ns),())}
theorem Kmh:Ok Tryz.prog 11 Kmw:=okW Kjp Tryz.f11 na fun xx=>by
 obtain⟨(l:List Ev),(k:ByteArray),(vs:List Int),(ns:List ByteArray),_⟩:=xx
 refine(by kernel_rfl:(lOk l→List.length l≤900→Z43 vs→Z98 ns→Jc5 ns→((0+List.length l)*88≤140737488355328∧Z57 l∧lOk l∧Dk (Jxq l k ns vs))∧Ya l (Jxq l k ns vs)=Ya l (Vq l k vs ns))=_).mp ?_
 delta Z43 Z57 Z98 Jxq Jc8 Jc5 Iw Ln B0
 intro h1 h2 h3 h4 h5
 exact⟨⟨by omega,by omega,h1,h4,h3,h5⟩,rfl⟩
abbrev Kjo:=Kjp.add Kmh
def Juk:Con:={Jp5 with owns:=[true]}
theorem Jzs:Ok Tryz.prog 12 Juk:=okW Kjo Tryz.f12 na fun xx=>by
 obtain⟨(l:List Ev),(h:Int),_⟩:=xx
 refine(by kernel_rfl:(J30 l h)=_).mp ?_
 delta Z36 Z64 Jy7 J6m Jq2 J30 Br Ln E2
 intro hl
 refine⟨⟨hl,by decide⟩,by decide,fun e=> ?_,fun e=>⟨Du,fun q=> ?_,fun q=> ?_⟩⟩
 ·have e:Jbn l h≠0:=bne_iff_ne.1 e
  unfold Xp;rw[if_neg e]
  exact⟨rfl,rfl⟩
 ·have e:Jbn l h=0:=bne_eq_false_iff_eq.1 e
  have q:256<(Ur (Kd l).2.2.2.2.1 h (Kd l).2.2.2.1).length:=Int.ofNat_lt.1 (of_decide_eq_true q)
  unfold Xp;rw[if_pos e,if_pos q]
  exact⟨rfl,rfl⟩
 ·have e:Jbn l h=0:=bne_eq_false_iff_eq.1 e
  have q:¬256<(Ur (Kd l).2.2.2.2.1 h (Kd l).2.2.2.1).length:=fun h=>of_decide_eq_false q (Int.ofNat_lt.2 h)
  unfold Xp;rw[if_pos e,if_neg q]
  exact⟨rfl,rfl⟩
theorem Jvn:Ok Tryz.prog 12 Juk.fresh:=Jsc (by kernel_rfl) Jzs
abbrev Km0:=Kjo.add Jvn
end Go.Proofs.YtdpcaknnhcnkpaaGreat

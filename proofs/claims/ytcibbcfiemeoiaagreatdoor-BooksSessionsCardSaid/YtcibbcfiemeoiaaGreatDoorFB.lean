/- Contracts of the functions that the law reaches: part of the proof. -/
import Derived.Test.YtcibbcfiemeoiaaGreatDoorFA
import Derived.Shelf.Strconv.ErrVarAll
import Derived.Lib.ItoaLen
import Derived.Lib.ItoaMem
set_option linter.unusedSimpArgs false
set_option linter.unusedVariables false
set_option maxRecDepth 20000
namespace Go.Proofs.YtcibbcfiemeoiaaGreatDoor
open Go.Sx
set_option maxHeartbeats 20000000
abbrev Jpl:=ByteArray×Int×Int×Int×Int×Int
abbrev Jji:Sch:= .prod .str (.prod sI (.prod sI (.prod sI (.prod sI sI))))
abbrev Lq:=Int×Int×Int×Int
def Jak (M:List Met) (s:ByteArray) (h:Int):Met:=M.getD (K6 M s h).toNat Jib
def Jcv (st:Int) (M:List Met) (x:Ord):Int→Nat→Lq→Lq
 |_,0,a=>a
 |h,n+1,(c,s,g,f)=>Jcv st M x (h+1) n (bif Jr x h&&decide (h<st) then(c+1,s+(Jak M x.1 h).2.2.1,g+(Jak M x.1 h).2.2.2,f+3*(x.2.2.2.2.1-(Jak M x.1 h).2.2.2)) else(c,s,g,f))
def Hn (st:Int) (M:List Met) (x:Ord):Lq:=Jcv st M x x.2.2.2.1.1 (Kz x) (0,0,0,0)
def J0 (st:Int) (M:List Met) (x:Ord):Jpl:=(x.1,(Hn st M x).1,(Hn st M x).2.1,(Hn st M x).2.2.1,(Hn st M x).2.2.1*x.2.2.2.2.2.1,(Hn st M x).2.2.2)
def Kzi:Con:={args:=[Jb3, .val true Hj],ress:=[(true,Jji)],owns:=[],pre:=fun(r,x,_)=>[Jn r,x∈r.2.2.2.1],spec:=fun((_,st,_,_,M,_),x,_)=>(J0 st M x,())}
abbrev J86 (tk st:Int) (S:List Sta) (O:List Ord) (M:List Met) (X:List Out) (Q:List Per) (x:Ord):Ann:={X:=Nat×Lq,σ:=fun(j,c,s,g,f)=>⟨14,[(0, .one (.fv 12)),(1, .one (.ptr 10 0)),(3, .one (.int .i64 (x.2.2.2.1.1+j)))],[(0, .imm 127 De S),(1, .imm 130 Hj O),(2, .imm 155 Dm M),(3, .imm 188 X4 X),(4, .imm 235 Zl Q),(5, .box 105 [.int .i64 tk, .int .i64 st, .sl 0, .sl 1, .sl 2, .sl 3, .sl 4]),(6, .box 130 (bxO x)),(7, .box 129 [.str Jb, .int .i64 0, .int .i64 0, .int .i64 0, .int .i64 0, .int .i64 0]),(8, .box 129 [.str x.1, .int .i64 c, .int .i64 s, .int .i64 g, .int .i64 0, .int .i64 f]),(10, .box 130 (bxO x)),(12, .yld .ready),(13, .sus [(2, .one (.ptr 5 0)),(3, .one (.ptr 6 0)),(4, .one (.ptr 7 0)),(5, .one (.ptr 8 0))])]⟩,inv:=fun(j,c,s,g,f)=>j≤Kz x∧(0≤c∧c≤j)∧(0≤s∧s≤1000*j)∧(0≤g∧g≤1000*j)∧(-3000*j≤f∧f≤3000*j)∧Jcv st M x (x.2.2.2.1.1+j) (Kz x-j) (c,s,g,f)=Hn st M x,mu:=fun(j,_)=>Kz x-j}
def Kgv (a:Int) (b:Nat):=0≤a∧a≤1000*Nc b
def Ksg (a:List Met) (b:Bt) (c:Int) (d:Nat×Lq):=(Gt a (K6 a b (c+Nc d.1)) Jt0).2.2
def Kr6 (a:Int) (b:List Met) (c:Bt) (d:Int) (e:Nat×Lq):=a-(Ksg b c d e).2
def Krp (a:Nat×Lq) (b:List Met) (c:Bt) (d:Int):=a.2.2.1+(Ksg b c d a).1
def Kfo (a:Nat×Lq) (b:List Met) (c:Bt) (d:Int):=a.2.2.2.1+(Ksg b c d a).2
def Kq1 (a:Nat×Lq) (b:Int) (c:List Met) (d:Bt) (e:Int):=a.2.2.2.2+3*Kr6 b c d e a
def Kdd (a:Nat) (b c d:Bt) (e f g h i j k l m n:Int) (o:List Met):=a≤Kz (b,c,d,(e,f),g,h,i)∧(0≤j∧j≤Nc a)∧Kgv k a∧Kgv l a∧((-3000)*Nc a≤m∧m≤3000*Nc a)∧Jcv n o (b,c,d,(e,f),g,h,i) (e+Nc a) (Kz (b,c,d,(e,f),g,h,i)-a) (j,k,l,m)=Hn n o (b,c,d,(e,f),g,h,i)
def Kc5 (a:Nat×Int×Int×Int×Int) (b c d:Bt) (e f g h i j:Int) (k:List Met):=match a with|(j_1,c_1,s,g_1,f_1)=>Kdd j_1 b c d e f g h i c_1 s g_1 f_1 j k
def Kcw (a:Nat×Int×Int×Int×Int) (b c d:Bt) (e f g h i j:Int) (k:List Met) (l:Nat×Lq):=Kc5 a b c d e f g h i j k∧Kz (b,c,d,(e,f),g,h,i)-a.1<Kz (b,c,d,(e,f),g,h,i)-l.1
def Kaz (a:Nat×Lq) (b:Int) (c:Bt) (d:Int) (e:List Met) (f g:Bt) (h i j k:Int) (l:List Sta) (m:List Ord) (n:List Out) (o:List Per) (p:Int):=Br false (Iw (a.2.2.2.1*b)∧Sf true ((c,a.2.1,a.2.2.1,a.2.2.2.1,a.2.2.2.1*b,a.2.2.2.2)=J0 d e (c,f,g,(h,i),j,b,k))) (Iw (h+Nc a.1+1)∧∃(y:Nat×Int×Int×Int×Int),(h+Nc a.1+1=h+Nc y.1∧Sf l (Sf m (Sf e (Sf n (Sf o (Si p (Si d (Sf c (Sf f (Sf g (Si h (Si i (Si j (Si b (Si k (Sf Jb (Si 0 (Si 0 (Si 0 (Si 0 (Si 0 (Sf c (a.2.1=y.2.1∧a.2.2.1=y.2.2.1∧a.2.2.2.1=y.2.2.2.1∧Si 0 (a.2.2.2.2=y.2.2.2.2∧Sf c (Sf f (Sf g (Si h (Si i (Si j (Si b (k=k)))))))))))))))))))))))))))))))∧Kcw y c f g h i j b k d e a)
theorem Kxt:Ok Tryz.prog 126 Kzi:=J1g Ua8 Tryz.f126 (U6 (l:=([(178,Tryz.f178),(247,Tryz.f247)]:List (Nat×Func))) (List.forall_mem_cons.2 ⟨by kernel_rfl,List.forall_mem_cons.2 ⟨by kernel_rfl,by simp⟩⟩)) (fun xx=>na ()) (fun xx=>fun f' id=>if f'=247 then some (J86 xx.1.1 xx.1.2.1 xx.1.2.2.1 xx.1.2.2.2.1 xx.1.2.2.2.2.1 xx.1.2.2.2.2.2.1 xx.1.2.2.2.2.2.2 (xx.2.1.1,xx.2.1.2.1,xx.2.1.2.2.1,(xx.2.1.2.2.2.1.1,xx.2.1.2.2.2.1.2),xx.2.1.2.2.2.2.1,xx.2.1.2.2.2.2.2.1,xx.2.1.2.2.2.2.2.2)) else none) fun xx=>by
 obtain⟨⟨(tk:Int),(st:Int),(S:List Sta),(O:List Ord),(M:List Met),(X:List Out),(Q:List Per)⟩,⟨(n:ByteArray),(f:ByteArray),(t:ByteArray),⟨(a:Int),(b:Int)⟩,(p:Int),(c:Int),(r:Int)⟩,_⟩:=xx
 refine(by kernel_rfl:(Ju tk st S O M X Q→(n,f,t,(a,b),p,c,r)∈O→∃(x:Nat×Int×Int×Int×Int),(a=a+Nc x.1∧Sf S (Sf O (Sf M (Sf X (Sf Q (Si tk (Si st (Sf n (Sf f (Sf t (Si a (Si b (Si p (Si c (Si r (B0=Jb∧Si 0 (Si 0 (Si 0 (Si 0 (Si 0 (Sf n (0=x.2.1∧0=x.2.2.1∧0=x.2.2.2.1∧Si 0 (0=x.2.2.2.2∧Sf n (Sf f (Sf t (Si a (Si b (Si p (Si c (r=r))))))))))))))))))))))))))))))∧Kc5 x n f t a b p c r st M∧∀(x:Nat×Lq),(match x with|(j,c_1,s,g,f_1)=>Kdd j n f t a b p c r c_1 s g f_1 st M)→Br (decide (a+Nc x.1<b)) (Br (Jr (n,f,t,(a,b),p,c,r) (a+Nc x.1)) (Br (decide (a+Nc x.1<st)) ((Ju tk st S O M X Q∧Tw (Bd (K6 M n (a+Nc x.1)) (Ln M)))∧Iw (x.2.1+1)∧Iw (Krp x M n a)∧Iw (Kfo x M n a)∧(Iw (Kr6 p M n a x)∧Iw (3*Kr6 p M n a x)∧Iw (Kq1 x p M n a))∧Br false (Iw (Kfo x M n a*c)∧Sf true ((n,x.2.1+1,Krp x M n a,Kfo x M n a,Kfo x M n a*c,Kq1 x p M n a)=J0 st M (n,f,t,(a,b),p,c,r))) (Iw (a+Nc x.1+1)∧∃(y:Nat×Int×Int×Int×Int),(a+Nc x.1+1=a+Nc y.1∧Sf S (Sf O (Sf M (Sf X (Sf Q (Si tk (Si st (Sf n (Sf f (Sf t (Si a (Si b (Si p (Si c (Si r (Sf Jb (Si 0 (Si 0 (Si 0 (Si 0 (Si 0 (Sf n (x.2.1+1=y.2.1∧Krp x M n a=y.2.2.1∧Kfo x M n a=y.2.2.2.1∧Si 0 (Kq1 x p M n a=y.2.2.2.2∧Sf n (Sf f (Sf t (Si a (Si b (Si p (Si c (r=r)))))))))))))))))))))))))))))))∧Kcw y n f t a b p c r st M x)) (Kaz x c n st M f t a b p r S O X Q tk)) (Kaz x c n st M f t a b p r S O X Q tk)) (Iw (x.2.2.2.1*c)∧Sf true ((n,x.2.1,x.2.2.1,x.2.2.2.1,x.2.2.2.1*c,x.2.2.2.2)=J0 st M (n,f,t,(a,b),p,c,r))))=_).mp ?_
 delta Z72 Z83 Jt0 Ju Kgv Ksg Kr6 Krp Kfo Kq1 Kdd Kc5 Kcw Kaz Br Iw Bd Tw Sf Si Ln Nc Gt B0
 intro hr hx
 have hO:=hr.ord _ hx
 have hD:=hr.done _ hx
 have b0:=hO.span.lo
 have b1:=hO.span.mid
 have b2:=hO.span.hi
 have b3:=hO.span.len
 have bp:=hO.pow
 have bc:=hO.pri
 have hn:Kz (n,f,t,(a,b),p,c,r)≤48∧(Kz (n,f,t,(a,b),p,c,r):Int)=b-a:=by
  dsimp only at b1 b3
  unfold Kz
  constructor<;>dsimp only<;>omega
 dsimp only at b0 b1 b2 b3 bp bc hD
 refine⟨((0:Nat),(0,0,0,0)),by(repeat' first|exact rfl|apply And.intro|exact(Int.add_zero _).symm|omega|dsimp only;omega),⟨Nat.zero_le _,by omega,by omega,by omega,by omega, ?_⟩,fun(y:Nat×Lq) hy=>⟨fun h1=> ?_,fun h1=> ?_⟩⟩
 ·unfold Hn
  rw[Nat.sub_zero]
  simp only[Int.natCast_zero,Int.add_zero]
 ·obtain⟨j,c1,s1,g1,f1⟩:=y
  obtain⟨k1,k2,k3,k4,k5,k6⟩:=hy
  have h1:a+(j:Int)<b:=of_decide_eq_true h1
  have hj:Kz (n,f,t,(a,b),p,c,r)-j=(Kz (n,f,t,(a,b),p,c,r)-(j+1))+1:=by omega
  rw[hj,Jcv] at k6
  have hc:a+(j:Int)+1=a+((j+1:Nat):Int):=by omega
  have hB: -9223372036854775808≤a+(j:Int)+1∧a+(j:Int)+1≤9223372036854775807:=by omega
  refine⟨fun h2=>⟨fun h3=> ?_,fun h3=>⟨fun h=>(by cases h),fun _=>⟨hB,(j+1,c1,s1,g1,f1),by(repeat' first|exact rfl|apply And.intro|exact(Int.add_zero _).symm|omega|dsimp only;omega),⟨by(first|omega|dsimp only;omega),by(first|omega|dsimp only;omega),by(first|omega|dsimp only;omega),by(first|omega|dsimp only;omega),by(first|omega|dsimp only;omega), ?_⟩,by(first|omega|dsimp only;omega)⟩⟩⟩,fun h2=>⟨fun h=>(by cases h),fun _=>⟨hB,(j+1,c1,s1,g1,f1),by(repeat' first|exact rfl|apply And.intro|exact(Int.add_zero _).symm|omega|dsimp only;omega),⟨by(first|omega|dsimp only;omega),by(first|omega|dsimp only;omega),by(first|omega|dsimp only;omega),by(first|omega|dsimp only;omega),by(first|omega|dsimp only;omega), ?_⟩,by(first|omega|dsimp only;omega)⟩⟩⟩
  ·have h3':a+(j:Int)<st:=of_decide_eq_true h3
   have hm:0≤K6 M n (a+(j:Int)):=hD _ h2 h3'
   have hl:=Jbe (l:=M) (s:=n) (h:=a+(j:Int))
   have hM:Jtn (Jak M n (a+(j:Int))):=hr.met _ (Je (show _<M.length by omega))
   have m1:=hM.sent
   have m2:=hM.got
   have e:M.getD (K6 M n (a+(j:Int))).toNat (Jb,0,0,0)=Jak M n (a+(j:Int)):=rfl
   simp only[]
   rw[show(({data:={toList:=[]}}:ByteArray),(0:Int),(0:Int),(0:Int))=(Jb,0,0,0) from rfl,e]
   rw[h2,h3,Bool.true_and,cond_true] at k6
   refine⟨⟨hr,⟨hm,hl⟩,hm,hl⟩,by omega,by omega,by omega,⟨by omega,by omega,by omega⟩,fun h=>(by cases h),fun _=>⟨hB,(j+1,c1+1,s1+(Jak M n (a+(j:Int))).2.2.1,g1+(Jak M n (a+(j:Int))).2.2.2,f1+3*(p-(Jak M n (a+(j:Int))).2.2.2)),by(repeat' first|exact rfl|apply And.intro|exact(Int.add_zero _).symm|omega|dsimp only;omega),⟨by(first|omega|dsimp only;omega),by(first|omega|dsimp only;omega),by(first|omega|dsimp only;omega),by(first|omega|dsimp only;omega),by(first|omega|dsimp only;omega), ?_⟩,by(first|omega|dsimp only;omega)⟩⟩
   rw[hc] at k6
   exact k6
  ·rw[h3,Bool.and_false,cond_false,hc] at k6
   exact k6
  ·rw[show Jr (n,f,t,(a,b),p,c,r) (a+(j:Int))=false from h2,Bool.false_and,cond_false,hc] at k6
   exact k6
 ·obtain⟨j,c1,s1,g1,f1⟩:=y
  obtain⟨k1,k2,k3,k4,k5,k6⟩:=hy
  have h1:¬a+(j:Int)<b:=of_decide_eq_false h1
  have hj:Kz (n,f,t,(a,b),p,c,r)-j=0:=by omega
  rw[hj,Jcv] at k6
  have q1:0≤g1*c:=Int.mul_nonneg k4.1 bc.1
  have q2:g1*c≤48000*1000:=Int.mul_le_mul (by omega) bc.2 bc.1 (by decide)
  refine⟨⟨by(first|omega|dsimp only;omega),by(first|omega|dsimp only;omega)⟩,rfl, ?_⟩
  unfold J0
  rw[←k6]
abbrev Ua7:=Ua8.add Kxt
def bd4 (k:Int) (a:Lq):Prop:=(0≤a.1∧a.1≤k)∧(0≤a.2.1∧a.2.1≤1000*k)∧(0≤a.2.2.1∧a.2.2.1≤a.2.1)∧-3000*k≤a.2.2.2∧a.2.2.2≤3000*k
theorem Jqv {st:Int} {M:List Met} {x:Ord} (hp:1≤x.2.2.2.2.1∧x.2.2.2.2.1≤1000) (hM:∀m∈M,Jtn m) (hd:∀h,Jr x h=true→h<st→0≤K6 M x.1 h):∀(n:Nat) (h:Int) (a:Lq) (k:Int),bd4 k a→bd4 (k+n) (Jcv st M x h n a)
 |0,_,_,k,ha=>by unfold Jcv;rw[show k+((0:Nat):Int)=k by omega];exact ha
 | n + 1, h, (c, s, g, f), k, ha => by
  unfold Jcv
  rw[show k+((n+1:Nat):Int)=(k+1)+n by omega]
  apply Jqv hp hM hd n
  unfold bd4 at ha⊢
  dsimp only at ha
  cases hb:Jr x h&&decide (h<st) with
  |false=>simp only[cond_false];omega
  |true=>
   have h1:=Bool.and_eq_true_iff.1 hb
   have hm:0≤K6 M x.1 h:=hd h h1.1 (of_decide_eq_true h1.2)
   have hl:=Jbe (l:=M) (s:=x.1) (h:=h)
   have hk:Jtn (Jak M x.1 h):=hM _ (Je (show _<M.length by omega))
   have m1:=hk.sent
   have m2:=hk.got
   simp only[cond_true]
   omega
theorem Jpp {S:List Sta} {x:Ord} (h:Jc2 S x):Kz x≤48:=by
 have:=h.span.len
 have:=h.span.mid
 unfold Kz
 omega
structure J6i (b:Jpl):Prop where
 hours:0≤b.2.1∧b.2.1≤48
 sent:0≤b.2.2.1∧b.2.2.1≤48000
 got:0≤b.2.2.2.1∧b.2.2.2.1≤b.2.2.1
 money:0≤b.2.2.2.2.1∧b.2.2.2.2.1≤48000000
 fine: -144000≤b.2.2.2.2.2∧b.2.2.2.2.2≤144000
theorem L0 {tk st:Int} {S:List Sta} {O:List Ord} {M:List Met} {X:List Out} {Q:List Per} {x:Ord} (hr:Jn (tk,st,S,O,M,X,Q)) (hx:x∈O):J6i (J0 st M x):=by
 have hO:=hr.ord _ hx
 have hs:=Jpp hO
 have h:=Jqv hO.pow hr.met (hr.done _ hx) (Kz x) x.2.2.2.1.1 (0,0,0,0) 0 (by unfold bd4;simp)
 have bc:=hO.pri
 unfold bd4 at h
 have h:(0≤(Hn st M x).1∧(Hn st M x).1≤0+(Kz x:Int))∧(0≤(Hn st M x).2.1∧(Hn st M x).2.1≤1000*(0+(Kz x:Int)))∧(0≤(Hn st M x).2.2.1∧(Hn st M x).2.2.1≤(Hn st M x).2.1)∧-3000*(0+(Kz x:Int))≤(Hn st M x).2.2.2∧(Hn st M x).2.2.2≤3000*(0+(Kz x:Int)):=h
 have q1:0≤(Hn st M x).2.2.1*x.2.2.2.2.2.1:=Int.mul_nonneg h.2.2.1.1 bc.1
 have q2:(Hn st M x).2.2.1*x.2.2.2.2.2.1≤48000*1000:=Int.mul_le_mul (by omega) bc.2 bc.1 (by decide)
 exact⟨by unfold J0;(first|omega|dsimp only;omega),by unfold J0;(first|omega|dsimp only;omega),by unfold J0;(first|omega|dsimp only;omega),by unfold J0;(first|omega|dsimp only;omega),by unfold J0;(first|omega|dsimp only;omega)⟩
def Xk (x:Ord) (a b:ByteArray):Bool:=x.2.1.toList==a.toList&&(x.2.2.1.toList==b.toList&&true)
def Kko (st:Int) (M:List Met) (a b:ByteArray) (x:Ord) (n:Int):Int:=(bif Xk x b a then(bif Xk x a b then n+((J0 st M x).2.2.2.2.1-(J0 st M x).2.2.2.2.2) else n)-((J0 st M x).2.2.2.2.1-(J0 st M x).2.2.2.2.2) else(bif Xk x a b then n+((J0 st M x).2.2.2.2.1-(J0 st M x).2.2.2.2.2) else n))
def Jna (st:Int) (M:List Met) (a b:ByteArray):List Ord→Int→Int
 |[],n=>n
 |x::l,n=>Jna st M a b l (Kko st M a b x n)
def Hp (st:Int) (O:List Ord) (M:List Met) (a b:ByteArray):Int:=Jna st M a b O 0
def J2l:Con:={args:=[Jb3,aS,aS],ress:=[I],owns:=[],pre:=fun(r,_)=>[Jn r],spec:=fun((_,st,_,O,M,_),a,b,_)=>(Hp st O M a b,())}
abbrev Kkf (tk st:Int) (S:List Sta) (O:List Ord) (M:List Met) (X:List Out) (Q:List Per) (a b:ByteArray):Ann:={X:=Nat×Int,σ:=fun(k,n)=>⟨6,[(1, .one (.str a)),(2, .one (.str b)),(3, .one (.ptr 5 0)),(7, .one (.int .i64 n)),(13, .one (.sl 1)),(14, .one (.int .i64 O.length)),(15, .one (.int .i64 k))],[(0, .imm 127 De S),(1, .imm 130 Hj O),(2, .imm 155 Dm M),(3, .imm 188 X4 X),(4, .imm 235 Zl Q),(5, .box 105 [.int .i64 tk, .int .i64 st, .sl 0, .sl 1, .sl 2, .sl 3, .sl 4])]⟩,inv:=fun(k,n)=>k≤O.length∧(-100000000*k≤n∧n≤100000000*k)∧Jna st M a b (O.drop k) n=Hp st O M a b,mu:=fun(k,_)=>O.length-k}
def Kfn (a:List Ord) (b:Nat×Int) (c:Bt):=Lb (Kft a b) c
def Kfm (a:List Ord) (b:Nat×Int) (c:Bt):=Lb (Kfr a b) c
def Kk9 (a:List Ord) (b c:Nat×Int) (d:List Sta) (e:List Met) (f:List Out) (g:List Per) (h i:Int):=Si (Ln a) (Jo8 b c d a e f g h i)
def J9h (a:Nat×Int) (b:List Ord) (c:Int) (d:List Met) (e f:Bt):=a.1≤List.length b∧((-100000000)*Nc a.1≤a.2∧a.2≤100000000*Nc a.1)∧Jna c d e f (List.drop a.1 b) a.2=Hp c b d e f
def Koy (a:List Ord) (b:Nat×Int) (c d:Bt):=Kfn a b c&&(Kfm a b d&&true)
def Jzv (a:Nat×Int) (b:List Ord) (c:Int) (d:List Met) (e f:Bt) (g:Nat×Int):=J9h a b c d e f∧List.length b-a.1<List.length b-g.1
def Kcv (a:Int) (b:List Met) (c:List Ord) (d:Nat×Int):=(J0 a b (Jpd c d)).2.2.2.2
def Jys (a:Int) (b:List Met) (c:List Ord) (d:Nat×Int):=(Kcv a b c d).1-(Kcv a b c d).2
def J3l (a:Int) (b:List Met) (c:List Ord) (d:Nat×Int):=Iw (Jys a b c d)
def Ka3 (a:Nat×Int) (b:Int) (c:List Met) (d:List Ord):=a.2-Jys b c d a
def J3k (a:Nat×Int) (b:Int) (c:List Met) (d:List Ord):=a.2+Jys b c d a
def Kaq (a:Nat×Int) (b:Int) (c:List Met) (d:List Ord):=J3k a b c d-Jys b c d a
theorem Kxs:Ok Tryz.prog 127 J2l:=okW Ua7 Tryz.f127 (fun xx=>Y4 (Kkf xx.1.1 xx.1.2.1 xx.1.2.2.1 xx.1.2.2.2.1 xx.1.2.2.2.2.1 xx.1.2.2.2.2.2.1 xx.1.2.2.2.2.2.2 xx.2.1 xx.2.2.1)) fun xx=>by
 obtain⟨⟨(tk:Int),(st:Int),(S:List Sta),(O:List Ord),(M:List Met),(X:List Out),(Q:List Per)⟩,(a:ByteArray),(b:ByteArray),_⟩:=xx
 refine(by kernel_rfl:(Ju tk st S O M X Q→∃(x:Nat×Int),Sf a (Sf b (0=x.2∧Si (Ln O) (Jtu x S O M X Q tk st)))∧J9h x O st M a b∧∀(x:Nat×Int),J9h x O st M a b→Br (decide (Nc x.1<Ln O)) (Tw (Bd (Nc x.1) (Ln O))∧(Ju tk st S O M X Q∧Jpd O x∈O)∧Br (Koy O x a b) ((J3l st M O x∧Iw (J3k x st M O))∧Br (Koy O x b a) ((J3l st M O x∧Iw (Kaq x st M O))∧Z46 x∧∃(y:Nat×Int),Sf a (Sf b (Kaq x st M O=y.2∧Kk9 O x y S M X Q tk st))∧Jzv y O st M a b x) (Z46 x∧∃(y:Nat×Int),Sf a (Sf b (J3k x st M O=y.2∧Kk9 O x y S M X Q tk st))∧Jzv y O st M a b x)) (Br (Koy O x b a) ((J3l st M O x∧Iw (Ka3 x st M O))∧Z46 x∧∃(y:Nat×Int),Sf a (Sf b (Ka3 x st M O=y.2∧Kk9 O x y S M X Q tk st))∧Jzv y O st M a b x) (Z46 x∧∃(y:Nat×Int),Sf a (Sf b (x.2=y.2∧Kk9 O x y S M X Q tk st))∧Jzv y O st M a b x))) (x.2=Hp st O M a b))=_).mp ?_
 delta Z46 Z72 Z83 Jnb Ju Jem Kfy Kfw Kfu Kft Kfr Kmh Kmf Kmd Kmc Kfn Kfm Jo9 Jtu Jo8 Kk9 J9h Koy Jzv Jpd Kcv Jys J3l Ka3 J3k Kaq Br Iw Bd Tw Sf Si Ln Nc B0 Lb E2
 intro hr
 have nO:O.length≤32:=hr.nO
 refine⟨((0:Nat),(0:Int)),by(repeat' first|exact rfl|apply And.intro|exact(Int.add_zero _).symm|omega|dsimp only;omega),⟨Nat.zero_le _,by omega,rfl⟩,fun(x:Nat×Int) hk=>⟨fun h1=> ?_,fun h1=> ?_⟩⟩
 ·obtain⟨k,n⟩:=x
  have hlt:k<O.length:=by simpa using h1
  have hx:=Je (d:=Jo) hlt
  have hb:=L0 hr hx
  obtain⟨k1,k2,k3⟩:=hk
  rw[Jq (d:=Jo) hlt,Jna] at k3
  have m1:=hb.money
  have m2:=hb.fine
  have hz:((({data:={toList:=[]}}:ByteArray),({data:={toList:=[]}}:ByteArray),({data:={toList:=[]}}:ByteArray),((0:Int),(0:Int)),(0:Int),(0:Int),(0:Int)):Ord)=Jo:=rfl
  dsimp only at k1 k2 k3
  simp only[hz,Prod.eta]
  generalize O.getD k Jo=y at*
  have k3:Jna st M a b (List.drop (k+1) O) (bif Xk y b a then(bif Xk y a b then n+((J0 st M y).2.2.2.2.1-(J0 st M y).2.2.2.2.2) else n)-((J0 st M y).2.2.2.2.1-(J0 st M y).2.2.2.2.2) else(bif Xk y a b then n+((J0 st M y).2.2.2.2.1-(J0 st M y).2.2.2.2.2) else n))=Hp st O M a b:=k3
  refine⟨⟨⟨by omega,by omega⟩,by omega,by omega⟩,⟨hr,hx⟩,fun h2=>⟨⟨⟨by omega,by omega⟩,by omega,by omega⟩,fun h3=>⟨⟨⟨by omega,by omega⟩,by omega,by omega⟩,⟨⟨by omega,by omega⟩,(k+1,n+((J0 st M y).2.2.2.2.1-(J0 st M y).2.2.2.2.2)-((J0 st M y).2.2.2.2.1-(J0 st M y).2.2.2.2.2)),by simp,⟨by(first|omega|dsimp only;omega),by(first|omega|dsimp only;omega), ?_⟩,by(first|omega|dsimp only;omega)⟩⟩,fun h3=>⟨⟨by omega,by omega⟩,(k+1,n+((J0 st M y).2.2.2.2.1-(J0 st M y).2.2.2.2.2)),by simp,⟨by(first|omega|dsimp only;omega),by(first|omega|dsimp only;omega), ?_⟩,by(first|omega|dsimp only;omega)⟩⟩,fun h2=>⟨fun h3=>⟨⟨⟨by omega,by omega⟩,by omega,by omega⟩,⟨⟨by omega,by omega⟩,(k+1,n-((J0 st M y).2.2.2.2.1-(J0 st M y).2.2.2.2.2)),by simp,⟨by(first|omega|dsimp only;omega),by(first|omega|dsimp only;omega), ?_⟩,by(first|omega|dsimp only;omega)⟩⟩,fun h3=>⟨⟨by omega,by omega⟩,(k+1,n),by simp,⟨by(first|omega|dsimp only;omega),by(first|omega|dsimp only;omega), ?_⟩,by(first|omega|dsimp only;omega)⟩⟩⟩
  all_goals (have h2:Xk y a b=_:=h2;have h3:Xk y b a=_:=h3;rw[h2,h3] at k3;exact k3)
 ·obtain⟨k,n⟩:=x
  have hlt:¬k<O.length:=by simpa using h1
  obtain⟨k1,k2,k3⟩:=hk
  have:k=O.length:=by omega
  rw[this,List.drop_length,Jna] at k3
  exact k3
abbrev Ua6:=Ua7.add Kxs
theorem Jyd {tk st:Int} {S:List Sta} {O:List Ord} {M:List Met} {X:List Out} {Q:List Per} {a b:ByteArray} (hr:Jn (tk,st,S,O,M,X,Q)):∀(l:List Ord) (n:Int),(∀x∈l,x∈O)→n-100000000*l.length≤Jna st M a b l n∧Jna st M a b l n≤n+100000000*l.length
 |[],n,_=>by simp[Jna]
 | x :: l, n, h => by
  have hb:=L0 hr (h x (List.mem_cons_self ..))
  have ih:=Jyd (a:=a) (b:=b) hr l (Kko st M a b x n) fun y hy=>h y (List.mem_cons_of_mem _ hy)
  have m1:=hb.money
  have m2:=hb.fine
  have hd:n-100000000≤Kko st M a b x n∧Kko st M a b x n≤n+100000000:=by
   unfold Kko
   cases Xk x a b<;>cases Xk x b a<;>simp only[cond_true,cond_false]<;>omega
  simp only[List.length_cons]
  unfold Jna
  omega
theorem Jkn {tk st:Int} {S:List Sta} {O:List Ord} {M:List Met} {X:List Out} {Q:List Per} {a b:ByteArray} (hr:Jn (tk,st,S,O,M,X,Q)): -3200000000≤Hp st O M a b∧Hp st O M a b≤3200000000:=by
 have h:=Jyd (a:=a) (b:=b) hr O 0 fun _ h=>h
 have nO:O.length≤32:=hr.nO
 unfold Hp
 omega
def Js5 (st:Int) (O:List Ord) (M:List Met) (s:ByteArray):List Sta→Int→Int
 |[],n=>n
 |x::l,n=>Js5 st O M s l (bif x.1.toList !=s.toList then n+Hp st O M s x.1 else n)
def Jo2 (st:Int) (S:List Sta) (O:List Ord) (M:List Met) (s:ByteArray):Int:=Js5 st O M s S 0
def J2i:Con:={args:=[Jb3,aS],ress:=[I],owns:=[],pre:=fun(r,_)=>[Jn r],spec:=fun((_,st,S,O,M,_),s,_)=>(Jo2 st S O M s,())}
abbrev Kkd (tk st:Int) (S:List Sta) (O:List Ord) (M:List Met) (X:List Out) (Q:List Per) (s:ByteArray):Ann:={X:=Nat×Int,σ:=fun(k,n)=>⟨6,[(1, .one (.str s)),(2, .one (.ptr 5 0)),(5, .one (.int .i64 n)),(9, .one (.sl 0)),(10, .one (.int .i64 S.length)),(11, .one (.int .i64 k))],[(0, .imm 127 De S),(1, .imm 130 Hj O),(2, .imm 155 Dm M),(3, .imm 188 X4 X),(4, .imm 235 Zl Q),(5, .box 105 [.int .i64 tk, .int .i64 st, .sl 0, .sl 1, .sl 2, .sl 3, .sl 4])]⟩,inv:=fun(k,n)=>k≤S.length∧(-3200000000*k≤n∧n≤3200000000*k)∧Js5 st O M s (S.drop k) n=Jo2 st S O M s,mu:=fun(k,_)=>S.length-k}
def Kne (a:List Sta) (b:Nat×Int):=(List.getD a b.1 Z12).1
def Kf4 (a:Nat×Int) (b:Int) (c:List Ord) (d:List Met) (e:Bt) (f:List Sta):=a.2+Hp b c d e (Kne f a)
def J9i (a:Nat×Int) (b:List Sta) (c:Int) (d:List Ord) (e:List Met) (f:Bt):=a.1≤List.length b∧((-3200000000)*Nc a.1≤a.2∧a.2≤3200000000*Nc a.1)∧Js5 c d e f (List.drop a.1 b) a.2=Jo2 c b d e f
def Ke2 (a:Nat×Int) (b:List Sta) (c:Int) (d:List Ord) (e:List Met) (f:Bt) (g:Nat×Int):=J9i a b c d e f∧List.length b-a.1<List.length b-g.1
theorem Kxr:Ok Tryz.prog 128 J2i:=okW Ua6 Tryz.f128 (fun xx=>Y4 (Kkd xx.1.1 xx.1.2.1 xx.1.2.2.1 xx.1.2.2.2.1 xx.1.2.2.2.2.1 xx.1.2.2.2.2.2.1 xx.1.2.2.2.2.2.2 xx.2.1)) fun xx=>by
 obtain⟨⟨(tk:Int),(st:Int),(S:List Sta),(O:List Ord),(M:List Met),(X:List Out),(Q:List Per)⟩,(s:ByteArray),_⟩:=xx
 refine(by kernel_rfl:(Ju tk st S O M X Q→∃(x:Nat×Int),Sf s (0=x.2∧Si (Ln S) (Jtu x S O M X Q tk st))∧J9i x S st O M s∧∀(x:Nat×Int),J9i x S st O M s→Br (decide (Nc x.1<Ln S)) (Tw (Bd (Nc x.1) (Ln S))∧Br (!Lb (Kne S x) s) ((Ju tk st S O M X Q∧Iw (Kf4 x st O M s S))∧Z46 x∧∃(y:Nat×Int),Sf s (Kf4 x st O M s S=y.2∧Si (Ln S) (Jo8 x y S O M X Q tk st))∧Ke2 y S st O M s x) (Z46 x∧∃(y:Nat×Int),Sf s (x.2=y.2∧Si (Ln S) (Jo8 x y S O M X Q tk st))∧Ke2 y S st O M s x)) (x.2=Jo2 st S O M s))=_).mp ?_
 delta Z12 Z46 Z72 Jnb Ju Kne Kf4 Jo9 Jtu Jo8 J9i Ke2 Br Iw Bd Tw Sf Si Ln Nc B0 Lb
 intro hr
 have nS:S.length≤6:=hr.nS
 refine⟨((0:Nat),(0:Int)),by simp,⟨Nat.zero_le _,by omega,rfl⟩,fun(x:Nat×Int) hk=>⟨fun h1=> ?_,fun h1=> ?_⟩⟩
 ·obtain⟨k,n⟩:=x
  have hlt:k<S.length:=by simpa using h1
  obtain⟨k1,k2,k3⟩:=hk
  rw[Jq (d:=Jnt) hlt,Js5] at k3
  have hz:((({data:={toList:=[]}}:ByteArray),(0:Int),(0:Int)):Sta)=Jnt:=rfl
  dsimp only at k1 k2 k3
  simp only[hz,Prod.eta]
  generalize S.getD k Jnt=y at*
  have hb:=Jkn (a:=s) (b:=y.1) hr
  refine⟨⟨⟨by omega,by omega⟩,by omega,by omega⟩,fun h2=>⟨⟨hr,by omega,by omega⟩,⟨by omega,by omega⟩,(k+1,n+Hp st O M s y.1),by simp,⟨by(first|omega|dsimp only;omega),by(first|omega|dsimp only;omega), ?_⟩,by(first|omega|dsimp only;omega)⟩,fun h2=>⟨⟨by omega,by omega⟩,(k+1,n),by simp,⟨by(first|omega|dsimp only;omega),by(first|omega|dsimp only;omega), ?_⟩,by(first|omega|dsimp only;omega)⟩⟩
  all_goals (have h2:(y.1.toList !=s.toList)=_:=h2;rw[h2] at k3;exact k3)
 ·obtain⟨k,n⟩:=x
  have hlt:¬k<S.length:=by simpa using h1
  obtain⟨k1,k2,k3⟩:=hk
  have:k=S.length:=by omega
  rw[this,List.drop_length,Js5] at k3
  exact k3
abbrev Ua5:=Ua6.add Kxr
def J44 (num den:Int):Int×Int:=(num.tdiv (Nat.gcd num.toNat den.toNat:Nat),den.tdiv (Nat.gcd num.toNat den.toNat:Nat))
def Uc9:Con:={args:=[aI,aI],ress:=[(true,La)],owns:=[],pre:=fun(a,b,_)=>[0≤a∧a≤1000000000000,1≤b∧b≤1000000000000],spec:=fun(a,b,_)=>(J44 a b,())}
abbrev Kj8 (num den:Int):Ann:={X:=Int×Int,σ:=fun(a,b)=>⟨1,[(0, .one (.int .i64 num)),(1, .one (.int .i64 den)),(4, .one (.ptr 0 0)),(5, .one (.int .i64 a)),(6, .one (.int .i64 b))],[(0, .box 54 [.int .i64 0, .int .i64 0])]⟩,inv:=fun(a,b)=>(0≤a∧a≤1000000000000)∧(0≤b∧b≤1000000000000)∧(a=0→b≠0)∧Nat.gcd a.toNat b.toNat=Nat.gcd num.toNat den.toNat,mu:=fun(_,b)=>b.toNat}
def Z28:=Tw ((0:Int)=0)
def Ko5 (a:Int×Int) (b c:Int):=(0≤a.1∧a.1≤1000000000000)∧(0≤a.2∧a.2≤1000000000000)∧(a.1=0→a.2=0→False)∧Nat.gcd (Int.toNat a.1) (Int.toNat a.2)=Nat.gcd (Int.toNat b) (Int.toNat c)
theorem Ubi:Ok Tryz.prog 99 Uc9:=okW Ua5 Tryz.f99 (fun xx=>Y4 (Kj8 xx.1 xx.2.1)) fun xx=>by
 obtain⟨(num:Int),(den:Int),_⟩:=xx
 refine(by kernel_rfl:(0≤num∧num≤1000000000000→1≤den∧den≤1000000000000→∃(x:Int×Int),Si num (Si den (num=x.1∧den=x.2∧Z28))∧Ko5 x num den∧∀(x:Int×Int),Ko5 x num den→Br (x.2 !=0) ((x.2=0→False)∧∃(y:Int×Int),Si num (Si den (x.2=y.1∧Int.tmod x.1 x.2=y.2∧Z28))∧Ko5 y num den∧Int.toNat y.2<Int.toNat x.2) (((x.1=0→False)∧Iw (Int.tdiv num x.1)∧(x.1=0→False)∧Iw (Int.tdiv den x.1))∧(Int.tdiv num x.1,Int.tdiv den x.1)=J44 num den))=_).mp ?_
 delta Z28 Ko5 Br Iw Tw Si
 intro h1' h2
 refine⟨(num,den),by simp,⟨h1',by(first|omega|dsimp only;omega),by(first|omega|dsimp only;omega),rfl⟩,fun(x:Int×Int) hk=>⟨fun h1=> ?_,fun h1=> ?_⟩⟩
 ·obtain⟨a,b⟩:=x
  obtain⟨k1,k2,k3,k4⟩:=hk
  dsimp only at k1 k2 k3 k4 h1
  have hb:b≠0:=bne_iff_ne.1 h1
  obtain⟨A,rfl⟩:=Int.eq_ofNat_of_zero_le k1.1
  obtain⟨B,rfl⟩:=Int.eq_ofNat_of_zero_le k2.1
  have hB:0<B:=by omega
  have hm:=Nat.mod_lt A hB
  have e:((A:Int).tmod (B:Int))=((A %B:Nat):Int):=(Int.ofNat_tmod A B).symm
  refine⟨hb,((B:Int),((A %B:Nat):Int)),⟨rfl,rfl,rfl,e,rfl,rfl⟩,⟨by(first|omega|dsimp only;omega),by(first|omega|dsimp only;omega),fun h=>(by dsimp only at h;omega), ?_⟩, ?_⟩
  ·rw[←k4]
   simp only[Int.toNat_natCast]
   rw[Nat.gcd_comm A B,Nat.gcd_rec B A,Nat.gcd_comm]
  ·simp only[Int.toNat_natCast]
   exact hm
 ·obtain⟨a,b⟩:=x
  obtain⟨k1,k2,k3,k4⟩:=hk
  dsimp only at k1 k2 k3 k4 h1
  have hb:b=0:=by simpa using h1
  subst hb
  have ha:a≠0:=fun h=>k3 h rfl
  have hg:(Nat.gcd num.toNat den.toNat:Int)=a:=by rw[←k4];simp;omega
  have d1:0≤num.tdiv a:=Int.tdiv_nonneg h1'.1 k1.1
  have d2:num.tdiv a≤num:=Int.tdiv_le_self _ h1'.1
  have d3:0≤den.tdiv a:=Int.tdiv_nonneg (by omega) k1.1
  have d4:den.tdiv a≤den:=Int.tdiv_le_self _ (by omega)
  refine⟨⟨ha,⟨by(first|omega|dsimp only;omega),by(first|omega|dsimp only;omega)⟩,ha,by(first|omega|dsimp only;omega),by(first|omega|dsimp only;omega)⟩, ?_⟩
  unfold J44
  rw[hg]
abbrev Ua4:=Ua5.add Ubi
abbrev Kho:Sch:= .prod .str (.prod sI .bool)
abbrev Frm:=ByteArray×Int×Bool
def Yu (k:ByteArray):Frm:=
 bif k.toList==Jy.toList then(⟨⟨[83]⟩⟩,2,true) else
 bif k.toList==Ue.toList then(⟨⟨[115]⟩⟩,2,true) else
 bif k.toList==Ku.toList then(⟨⟨[79,115,115]⟩⟩,4,true) else
 bif k.toList==Uc.toList then(⟨⟨[111]⟩⟩,4,true) else
 bif k.toList==Vq.toList then(⟨⟨[111]⟩⟩,1,true) else
 bif k.toList==Jz.toList then(⟨⟨[88,115]⟩⟩,4,true) else
 bif k.toList==Jv.toList then(⟨⟨[120]⟩⟩,1,true) else
 bif k.toList==Kh.toList then(⟨⟨[80,120]⟩⟩,1,true) else
 bif k.toList==Kg.toList then(⟨⟨[112]⟩⟩,1,true) else
 bif k.toList==Ji.toList then(⟨⟨[]⟩⟩,2,true) else
 bif k.toList==J1.toList then(⟨⟨[]⟩⟩,0,true) else
 (Jb,0,false)
def Kzc:Con:={args:=[aS],ress:=[(true,Kho)],owns:=[],pre:=fun _=>[],spec:=fun(k,_)=>(Yu k,())}
theorem Kh2:Ok Tryz.prog 110 Kzc:=okW Ua4 Tryz.f110 na fun xx=>by
 obtain⟨(k:ByteArray),_⟩:=xx
 refine(by kernel_rfl:(Br (Lb k Jy) ((ByteArray.mk (Array.mk [83]),2,true)=Yu k) (Br (Lb k Ue) ((ByteArray.mk (Array.mk [115]),2,true)=Yu k) (Br (Lb k Ku) ((ByteArray.mk (Array.mk [79,115,115]),4,true)=Yu k) (Br (Lb k Uc) ((ByteArray.mk (Array.mk [111]),4,true)=Yu k) (Br (Lb k Vq) ((ByteArray.mk (Array.mk [111]),1,true)=Yu k) (Br (Lb k Jz) ((ByteArray.mk (Array.mk [88,115]),4,true)=Yu k) (Br (Lb k Jv) ((ByteArray.mk (Array.mk [120]),1,true)=Yu k) (Br (Lb k Kh) ((ByteArray.mk (Array.mk [80,120]),1,true)=Yu k) (Br (Lb k Kg) ((ByteArray.mk (Array.mk [112]),1,true)=Yu k) (Br (Lb k Ji) ((B0,2,true)=Yu k) (Br (Lb k J1) ((B0,0,true)=Yu k) ((B0,0,false)=Yu k))))))))))))=_).mp ?_
 delta Br B0 Lb Uc Ku Jz Kh Ue Jv Kg Ji Jy Vq J1
 unfold Yu
 repeat' first|(refine⟨fun h=> ?_,fun h=> ?_⟩)|(rw[h];clear h)
 all_goals rfl
abbrev Ua3:=Ua4.add Kh2
def J79:Con:={args:=[aS],ress:=[Bo],owns:=[],pre:=fun _=>[],spec:=fun(k,_)=>((Yu k).2.2,())}
theorem Kx5:Ok Tryz.prog 113 J79:=okW Ua3 Tryz.f113 na fun xx=>by
 obtain⟨(k:ByteArray),_⟩:=xx
 refine(by kernel_rfl:((Yu k).2.2=(Yu k).2.2)=_).mp ?_
 rfl
abbrev Ua2:=Ua3.add Kx5
abbrev Jlh:Sch:= .prod sI (.prod sI (.prod (.list 114 De) (.prod (.list 119 Hj) (.prod (.list 121 Dm) (.prod (.list 123 X4) (.list 125 Zl))))))
abbrev Y0:AK:= .val true Jlh
def Kzo:Con:={args:=[Y0,aS],ress:=[I],owns:=[],pre:=fun((_,_,L,_),_)=>[L.length≤1000000],spec:=fun((_,_,L,_),s,_)=>(J6 L s,())}
abbrev J9a (tk st:Int) (S:List Sta) (O:List Ord) (M:List Met) (X:List Out) (Q:List Per) (s:ByteArray):Ann:={X:=Nat,σ:=fun k=>⟨6,[(1, .one (.str s)),(2, .one (.ptr 5 0)),(5, .one (.int .i64 k))],[(0, .imm 114 De S),(1, .imm 119 Hj O),(2, .imm 121 Dm M),(3, .imm 123 X4 X),(4, .imm 125 Zl Q),(5, .box 37 [.int .i64 tk, .int .i64 st, .sl 0, .sl 1, .sl 2, .sl 3, .sl 4])]⟩,inv:=fun k=>k≤S.length∧J6 S s=Vt (fun x=>x.1.toList==s.toList) (S.drop k) k,mu:=fun k=>S.length-k}
def Kr0 (a:Nat) (b:List Sta) (c:Bt):=a≤List.length b∧J6 b c=Vt (fun(x:Sta)=>Lb x.1 c) (List.drop a b) a
def Jzx (a:Bt) (b:Nat) (c:List Sta) (d:List Ord) (e:List Met) (f:List Out) (g:List Per) (h i:Int):=Sf a (0=Nc b∧Jo9 c d e f g h i)
def Jzw (a:Bt) (b c:Nat) (d:List Sta) (e:List Ord) (f:List Met) (g:List Out) (h:List Per) (i j:Int):=Sf a (Vm b c∧Jo9 d e f g h i j)
theorem Ucr:Ok Tryz.prog 21 Kzo:=okW Ua2 Tryz.f21 (fun xx=>Y4 (J9a xx.1.1 xx.1.2.1 xx.1.2.2.1 xx.1.2.2.2.1 xx.1.2.2.2.2.1 xx.1.2.2.2.2.2.1 xx.1.2.2.2.2.2.2 xx.2.1)) fun xx=>by
 obtain⟨⟨(tk:Int),(st:Int),(S:List Sta),(O:List Ord),(M:List Met),(X:List Out),(Q:List Per)⟩,(s:ByteArray),_⟩:=xx
 refine(by kernel_rfl:(Z62 S→∃(x:Nat),Jzx s x S O M X Q tk st∧Kr0 x S s∧∀(x:Nat),Kr0 x S s→Br (decide (Nc x<Ln S)) (Tw (Bd (Nc x) (Ln S))∧Br (Lb (List.getD S x Z12).1 s) (Nc x=J6 S s) (Z20 x∧∃(y:Nat),Jzw s x y S O M X Q tk st∧Kr0 y S s∧List.length S-y<List.length S-x)) (Z79=J6 S s))=_).mp ?_
 delta Z12 Z20 Z62 Z79 Vm Kr0 Jo9 Jzx Jzw Br Iw Bd Tw Sf Si Ln Nc B0 Lb
 intro hb
 refine⟨(0:Nat),by simp,⟨Nat.zero_le _,rfl⟩,fun(k:Nat) hk=>⟨fun h=> ?_,fun h=> ?_⟩⟩
 ·have hlt:k<S.length:=by simpa using h
  have hd:=Yi (p:=fun x=>x.1.toList==s.toList) (d:=Jnt) hlt
  refine⟨by omega,fun h1=> ?_,fun h1=>⟨by omega,(k+1:Nat),by simp,⟨by omega, ?_⟩,by omega⟩⟩
  ·rw[hk.2,hd,if_pos (show((S.getD k Jnt).1.toList==s.toList)=true from h1)]
  ·rw[hk.2,hd,if_neg (by rw[show((S.getD k Jnt).1.toList==s.toList)=false from h1];simp)]
 ·have hlt:¬k<S.length:=by simpa using h
  have:k=S.length:=by omega
  rw[hk.2,this,List.drop_length];rfl
abbrev Ua1:=Ua2.add Ucr
def Kzn:Con:={args:=[Y0,aS],ress:=[I],owns:=[],pre:=fun((_,_,_,L,_),_)=>[L.length≤1000000],spec:=fun((_,_,_,L,_),s,_)=>(K0 L s,())}
abbrev J89 (tk st:Int) (S:List Sta) (O:List Ord) (M:List Met) (X:List Out) (Q:List Per) (s:ByteArray):Ann:={X:=Nat,σ:=fun k=>⟨6,[(1, .one (.str s)),(2, .one (.ptr 5 0)),(5, .one (.int .i64 k))],[(0, .imm 114 De S),(1, .imm 119 Hj O),(2, .imm 121 Dm M),(3, .imm 123 X4 X),(4, .imm 125 Zl Q),(5, .box 37 [.int .i64 tk, .int .i64 st, .sl 0, .sl 1, .sl 2, .sl 3, .sl 4])]⟩,inv:=fun k=>k≤O.length∧K0 O s=Vt (fun x=>x.1.toList==s.toList) (O.drop k) k,mu:=fun k=>O.length-k}
def Kry (a:Nat) (b:List Ord) (c:Bt):=a≤List.length b∧K0 b c=Vt (fun(x:Ord)=>Lb x.1 c) (List.drop a b) a
theorem Ubu:Ok Tryz.prog 86 Kzn:=okW Ua1 Tryz.f86 (fun xx=>Y4 (J89 xx.1.1 xx.1.2.1 xx.1.2.2.1 xx.1.2.2.2.1 xx.1.2.2.2.2.1 xx.1.2.2.2.2.2.1 xx.1.2.2.2.2.2.2 xx.2.1)) fun xx=>by
 obtain⟨⟨(tk:Int),(st:Int),(S:List Sta),(O:List Ord),(M:List Met),(X:List Out),(Q:List Per)⟩,(s:ByteArray),_⟩:=xx
 refine(by kernel_rfl:(Z64 O→∃(x:Nat),Jzx s x S O M X Q tk st∧Kry x O s∧∀(x:Nat),Kry x O s→Br (decide (Nc x<Ln O)) (Tw (Bd (Nc x) (Ln O))∧Br (Lb (J9n O x) s) (Nc x=K0 O s) (Z20 x∧∃(y:Nat),Jzw s x y S O M X Q tk st∧Kry y O s∧J58 O y x)) (Z79=K0 O s))=_).mp ?_
 delta Z20 Z64 Z79 Z83 Vm J58 Jem Kfz J9n Kry Jo9 Jzx Jzw Br Iw Bd Tw Sf Si Ln Nc B0 Lb
 intro hb
 refine⟨(0:Nat),by simp,⟨Nat.zero_le _,rfl⟩,fun(k:Nat) hk=>⟨fun h=> ?_,fun h=> ?_⟩⟩
 ·have hlt:k<O.length:=by simpa using h
  have hd:=Yi (p:=fun x=>x.1.toList==s.toList) (d:=Jo) hlt
  refine⟨by omega,fun h1=> ?_,fun h1=>⟨by omega,(k+1:Nat),by simp,⟨by omega, ?_⟩,by omega⟩⟩
  ·rw[hk.2,hd,if_pos (show((O.getD k Jo).1.toList==s.toList)=true from h1)]
  ·rw[hk.2,hd,if_neg (by rw[show((O.getD k Jo).1.toList==s.toList)=false from h1];simp)]
 ·have hlt:¬k<O.length:=by simpa using h
  have:k=O.length:=by omega
  rw[hk.2,this,List.drop_length];rfl
abbrev Ua0:=Ua1.add Ubu
def Kzm:Con:={args:=[Y0,aS],ress:=[I],owns:=[],pre:=fun((_,_,_,_,_,L,_),_)=>[L.length≤1000000],spec:=fun((_,_,_,_,_,L,_),s,_)=>(Kc L s,())}
abbrev J88 (tk st:Int) (S:List Sta) (O:List Ord) (M:List Met) (X:List Out) (Q:List Per) (s:ByteArray):Ann:={X:=Nat,σ:=fun k=>⟨6,[(1, .one (.str s)),(2, .one (.ptr 5 0)),(5, .one (.int .i64 k))],[(0, .imm 114 De S),(1, .imm 119 Hj O),(2, .imm 121 Dm M),(3, .imm 123 X4 X),(4, .imm 125 Zl Q),(5, .box 37 [.int .i64 tk, .int .i64 st, .sl 0, .sl 1, .sl 2, .sl 3, .sl 4])]⟩,inv:=fun k=>k≤X.length∧Kc X s=Vt (fun x=>x.1.toList==s.toList) (X.drop k) k,mu:=fun k=>X.length-k}
def Z93 (a:Nat) (b:List Out):=Tw (Bd (Nc a) (Ln b))
def Kr2 (a:Nat) (b:List Out) (c:Bt):=a≤List.length b∧Kc b c=Vt (fun(x:Out)=>Lb x.1 c) (List.drop a b) a
theorem Ubt:Ok Tryz.prog 87 Kzm:=okW Ua0 Tryz.f87 (fun xx=>Y4 (J88 xx.1.1 xx.1.2.1 xx.1.2.2.1 xx.1.2.2.2.1 xx.1.2.2.2.2.1 xx.1.2.2.2.2.2.1 xx.1.2.2.2.2.2.2 xx.2.1)) fun xx=>by
 obtain⟨⟨(tk:Int),(st:Int),(S:List Sta),(O:List Ord),(M:List Met),(X:List Out),(Q:List Per)⟩,(s:ByteArray),_⟩:=xx
 refine(by kernel_rfl:(Z55 X→∃(x:Nat),Jzx s x S O M X Q tk st∧Kr2 x X s∧∀(x:Nat),Kr2 x X s→Br (Jrk x X) (Z93 x X∧Br (Lb (Jyh X x) s) (Nc x=Kc X s) (Z20 x∧∃(y:Nat),Jzw s x y S O M X Q tk st∧Kr2 y X s∧Jyi X y x)) (Z79=Kc X s))=_).mp ?_
 delta Z20 Z55 Z79 Z93 Jrk Vm Jgp Jyi Jz4 Jyh Kr2 Jo9 Jzx Jzw Br Iw Bd Tw Sf Si Ln Nc B0 Lb
 intro hb
 refine⟨(0:Nat),by simp,⟨Nat.zero_le _,rfl⟩,fun(k:Nat) hk=>⟨fun h=> ?_,fun h=> ?_⟩⟩
 ·have hlt:k<X.length:=by simpa using h
  have hd:=Yi (p:=fun x=>x.1.toList==s.toList) (d:=Fi) hlt
  refine⟨by omega,fun h1=> ?_,fun h1=>⟨by omega,(k+1:Nat),by simp,⟨by omega, ?_⟩,by omega⟩⟩
  ·rw[hk.2,hd,if_pos (show((X.getD k Fi).1.toList==s.toList)=true from h1)]
  ·rw[hk.2,hd,if_neg (by rw[show((X.getD k Fi).1.toList==s.toList)=false from h1];simp)]
 ·have hlt:¬k<X.length:=by simpa using h
  have:k=X.length:=by omega
  rw[hk.2,this,List.drop_length];rfl
abbrev Uaz:=Ua0.add Ubt
def Kzl:Con:={args:=[Y0,aS],ress:=[I],owns:=[],pre:=fun((_,_,_,_,_,_,L),_)=>[L.length≤1000000],spec:=fun((_,_,_,_,_,_,L),s,_)=>(U5 L s,())}
abbrev J87 (tk st:Int) (S:List Sta) (O:List Ord) (M:List Met) (X:List Out) (Q:List Per) (s:ByteArray):Ann:={X:=Nat,σ:=fun k=>⟨6,[(1, .one (.str s)),(2, .one (.ptr 5 0)),(5, .one (.int .i64 k))],[(0, .imm 114 De S),(1, .imm 119 Hj O),(2, .imm 121 Dm M),(3, .imm 123 X4 X),(4, .imm 125 Zl Q),(5, .box 37 [.int .i64 tk, .int .i64 st, .sl 0, .sl 1, .sl 2, .sl 3, .sl 4])]⟩,inv:=fun k=>k≤Q.length∧U5 Q s=Vt (fun x=>x.1.toList==s.toList) (Q.drop k) k,mu:=fun k=>Q.length-k}
def Krz (a:Nat) (b:List Per) (c:Bt):=a≤List.length b∧U5 b c=Vt (fun(x:Per)=>Lb x.1 c) (List.drop a b) a
theorem Ubs:Ok Tryz.prog 88 Kzl:=okW Uaz Tryz.f88 (fun xx=>Y4 (J87 xx.1.1 xx.1.2.1 xx.1.2.2.1 xx.1.2.2.2.1 xx.1.2.2.2.2.1 xx.1.2.2.2.2.2.1 xx.1.2.2.2.2.2.2 xx.2.1)) fun xx=>by
 obtain⟨⟨(tk:Int),(st:Int),(S:List Sta),(O:List Ord),(M:List Met),(X:List Out),(Q:List Per)⟩,(s:ByteArray),_⟩:=xx
 refine(by kernel_rfl:(Z54 Q→∃(x:Nat),Jzx s x S O M X Q tk st∧Krz x Q s∧∀(x:Nat),Krz x Q s→Br (Jt2 x Q) (Tw (Z23 x Q)∧Br (Lb (List.getD Q x (B0,B0,false)).1 s) (Nc x=U5 Q s) (Z20 x∧∃(y:Nat),Jzw s x y S O M X Q tk st∧Krz y Q s∧Jz8 Q y x)) (Z79=U5 Q s))=_).mp ?_
 delta Z20 Z23 Z54 Z79 Vm Jt2 Jz8 Krz Jo9 Jzx Jzw Br Iw Bd Tw Sf Si Ln Nc B0 Lb
 intro hb
 refine⟨(0:Nat),by simp,⟨Nat.zero_le _,rfl⟩,fun(k:Nat) hk=>⟨fun h=> ?_,fun h=> ?_⟩⟩
 ·have hlt:k<Q.length:=by simpa using h
  have hd:=Yi (p:=fun x=>x.1.toList==s.toList) (d:=Jd5) hlt
  refine⟨by omega,fun h1=> ?_,fun h1=>⟨by omega,(k+1:Nat),by simp,⟨by omega, ?_⟩,by omega⟩⟩
  ·rw[hk.2,hd,if_pos (show((Q.getD k Jd5).1.toList==s.toList)=true from h1)]
  ·rw[hk.2,hd,if_neg (by rw[show((Q.getD k Jd5).1.toList==s.toList)=false from h1];simp)]
 ·have hlt:¬k<Q.length:=by simpa using h
  have:k=Q.length:=by omega
  rw[hk.2,this,List.drop_length];rfl
abbrev Uay:=Uaz.add Ubs
def atS (r:Reg) (c:Int) (s:ByteArray):Int:=bif c==115 then J6 r.2.2.1 s else bif c==111 then K0 r.2.2.2.1 s else bif c==120 then Kc r.2.2.2.2.2.1 s else U5 r.2.2.2.2.2.2 s
def cAt:Con:={args:=[Y0, .val false (.int .u8),aS],ress:=[I],owns:=[],pre:=fun(r,_)=>[Jn r],spec:=fun(r,c,s,_)=>(atS r c s,())}
theorem Kv7:Ok Tryz.prog 192 cAt:=okW Uay Tryz.f192 na fun xx=>by
 obtain⟨⟨(tk:Int),(st:Int),(S:List Sta),(O:List Ord),(M:List Met),(X:List Out),(Q:List Per)⟩,(c:Int),(s:ByteArray),_⟩:=xx
 refine(by kernel_rfl:(Ju tk st S O M X Q→Br (c==115) (Z62 S∧J6 S s=atS (Z72 tk st S O M X Q) c s) (Br (c==111) (Z64 O∧K0 O s=atS (Z72 tk st S O M X Q) c s) (Br (c==120) (Z55 X∧Kc X s=atS (Z72 tk st S O M X Q) c s) (Z54 Q∧U5 Q s=atS (Z72 tk st S O M X Q) c s))))=_).mp ?_
 delta Z54 Z55 Z62 Z64 Z72 Ju Br
 intro hr
 have nS:S.length≤6:=hr.nS
 have nO:O.length≤32:=hr.nO
 have nX:X.length≤16:=hr.nX
 have nQ:Q.length≤16:=hr.nQ
 unfold atS
 repeat' first|(refine⟨fun h=> ?_,fun h=> ?_⟩)|(rw[h];clear h)
 all_goals exact⟨by omega,rfl⟩
abbrev Uax:=Uay.add Kv7
theorem Kwg:Ok Tryz.prog 181 Jxa:=okW Uax Tryz.f181 na fun xx=>by
 obtain⟨⟨(a:Int),(b:Int)⟩,(h:Int),_⟩:=xx
 refine(by kernel_rfl:((bif decide (a≤h) then decide (h<b) else false)=Ki (a,b) h)=_).mp ?_
 rfl
abbrev Uaw:=Uax.add Kwg
def Js4:Con:={args:=[.val true Hj,aI],ress:=[Bo],owns:=[],pre:=fun(x,_)=>[-1≤x.2.2.2.2.2.2],spec:=fun(x,h,_)=>(Jr x h,())}
def Kno (a:Int):=Z79≤a
theorem Kyc:Ok Tryz.prog 103 Js4:=okW Uaw Tryz.f103 na fun xx=>by
 obtain⟨⟨(n:ByteArray),(f:ByteArray),(t:ByteArray),⟨(a:Int),(b:Int)⟩,(p:Int),(c:Int),(r:Int)⟩,(h:Int),_⟩:=xx
 refine(by kernel_rfl:(Kno r→(bif Ki (a,b) h then bif decide (r<0) then true else decide (h<r) else false)=Jr (n,f,t,(a,b),p,c,r) h)=_).mp ?_
 delta Z79 Kno
 intro hr
 unfold Jr
 have:(r== -1)=decide (r<0):=by
  by_cases q:r= -1
  ·rw[q];rfl
  ·rw[beq_eq_false_iff_ne.2 q,decide_eq_false (by(first|omega|dsimp only;omega))]
 dsimp only
 rw[this]
abbrev Uav:=Uaw.add Kyc
def Udh:Con:={args:=[Y0,aS,aI],ress:=[I],owns:=[],pre:=fun(r,s,_)=>[Jn r,0≤J6 r.2.2.1 s],spec:=fun((_,_,S,_,_,X,_),s,h,_)=>(Jhg X s h (Hm S s).2.1,())}
abbrev Kkc (tk st:Int) (S:List Sta) (O:List Ord) (M:List Met) (X:List Out) (Q:List Per) (s:ByteArray) (h:Int):Ann:={X:=Nat×Int,σ:=fun(k,n)=>⟨6,[(1, .one (.str s)),(2, .one (.int .i64 h)),(3, .one (.ptr 5 0)),(7, .one (.int .i64 n)),(8, .one (.int .i64 k))],[(0, .imm 114 De S),(1, .imm 119 Hj O),(2, .imm 121 Dm M),(3, .imm 123 X4 X),(4, .imm 125 Zl Q),(5, .box 37 [.int .i64 tk, .int .i64 st, .sl 0, .sl 1, .sl 2, .sl 3, .sl 4])]⟩,inv:=fun(k,n)=>k≤X.length∧Jhg (X.drop k) s h n=Jhg X s h (Hm S s).2.1,mu:=fun(k,_)=>X.length-k}
def Krm (a:Nat×Int) (b:List Out) (c:Bt) (d:Int) (e:List Sta):=a.1≤List.length b∧Jhg (List.drop a.1 b) c d a.2=Jhg b c d (Hm e c).2.1
def K2s (a:Nat×Int) (b:List Out) (c:Bt) (d:Int) (e:List Sta) (f:Nat×Int):=Krm a b c d e∧List.length b-a.1<List.length b-f.1
def Ke6 (a b:Nat×Int) (c:List Sta) (d:List Ord) (e:List Met) (f:List Out) (g:List Per) (h i:Int):=a.2=b.2∧Jo8 a b c d e f g h i
theorem Kyf:Ok Tryz.prog 100 Udh:=okW Uav Tryz.f100 (fun xx=>Y4 (Kkc xx.1.1 xx.1.2.1 xx.1.2.2.1 xx.1.2.2.2.1 xx.1.2.2.2.2.1 xx.1.2.2.2.2.2.1 xx.1.2.2.2.2.2.2 xx.2.1 xx.2.2.1)) fun xx=>by
 obtain⟨⟨(tk:Int),(st:Int),(S:List Sta),(O:List Ord),(M:List Met),(X:List Out),(Q:List Per)⟩,(s:ByteArray),(h:Int),_⟩:=xx
 refine(by kernel_rfl:(Ju tk st S O M X Q→Z26 S s→(Z62 S∧Tw (Bd (J6 S s) (Ln S)))∧∃(x:Nat×Int),Sf s (Si h ((Knc S s).2.1=x.2∧Jtu x S O M X Q tk st))∧Krm x X s h S∧∀(x:Nat×Int),Krm x X s h S→Br (decide (Nc x.1<Ln X)) (Tw (Bd (Nc x.1) (Ln X))∧Br (bif bif Lb (Kgf X x).1 s then Ki (Ksk X x) h else false then decide (Kga X x<x.2) else false) (Z46 x∧∃(y:Nat×Int),Sf s (Si h (Kga X x=y.2∧Jo8 x y S O M X Q tk st))∧K2s y X s h S x) (Z46 x∧∃(y:Nat×Int),Sf s (Si h (Ke6 x y S O M X Q tk st))∧K2s y X s h S x)) (x.2=Jhg X s h (Hm S s).2.1))=_).mp ?_
 delta Z12 Z26 Z46 Z62 Z72 Jnb Ju Jgp Knc Kgf Kga Ksk Krm Jo9 Jtu K2s Jo8 Ke6 Br Iw Bd Tw Sf Si Ln Nc Gt B0 Lb E2
 intro hr hf
 have nS:S.length≤6:=hr.nS
 have nX:X.length≤16:=hr.nX
 have hl:=K8 (l:=S) (s:=s)
 refine⟨⟨by omega,⟨hf,hl⟩,hf,hl⟩,((0:Nat),(Hm S s).2.1),by(repeat' first|exact rfl|exact⟨⟩|apply And.intro|omega|dsimp only;omega),⟨Nat.zero_le _,rfl⟩,fun(x:Nat×Int) hk=>⟨fun h1=> ?_,fun h1=> ?_⟩⟩
 ·obtain⟨k,n⟩:=x
  have hlt:k<X.length:=by simpa using h1
  obtain⟨k1,k2⟩:=hk
  rw[Jq (d:=Fi) hlt,Jhg] at k2
  have hz:((({data:={toList:=[]}}:ByteArray),({data:={toList:=[]}}:ByteArray),((0:Int),(0:Int)),(0:Int)):Out)=Fi:=rfl
  dsimp only at k1 k2
  simp only[hz,Prod.eta]
  generalize X.getD k Fi=y at*
  have hc:(bif bif bif y.2.1.toList==s.toList then Ki y.2.2.1 h else false then decide (y.2.2.2<n) else false then y.2.2.2 else n)=bif J1e y s h then min n y.2.2.2 else n:=by
   unfold J1e
   cases bif y.2.1.toList==s.toList then Ki y.2.2.1 h else false
   ·rfl
   ·by_cases q:y.2.2.2<n
    ·simp only[cond_true,decide_eq_true q];omega
    ·simp only[cond_true,decide_eq_false q,cond_false];omega
  refine⟨⟨⟨by omega,by omega⟩,by omega,by omega⟩,fun h2=>⟨⟨by omega,by omega⟩,(k+1,y.2.2.2),by simp,⟨by(first|omega|dsimp only;omega), ?_⟩,by(first|omega|dsimp only;omega)⟩,fun h2=>⟨⟨by omega,by omega⟩,(k+1,n),by simp,⟨by(first|omega|dsimp only;omega), ?_⟩,by(first|omega|dsimp only;omega)⟩⟩
  all_goals (rw[←hc] at k2;have h2:(bif bif y.2.1.toList==s.toList then Ki y.2.2.1 h else false then decide (y.2.2.2<n) else false)=_:=h2;rw[h2] at k2;exact k2)
 ·obtain⟨k,n⟩:=x
  have hlt:¬k<X.length:=by simpa using h1
  obtain⟨k1,k2⟩:=hk
  have:k=X.length:=by omega
  rw[this,List.drop_length,Jhg] at k2
  exact k2
abbrev Uau:=Uav.add Kyf
def J2g:Con:={args:=[Y0,aS,aI],ress:=[I],owns:=[],pre:=fun(r,_)=>[Jn r],spec:=fun((_,_,_,O,_),s,h,_)=>(Vf O s h,())}
abbrev Js8 (tk st:Int) (S:List Sta) (O:List Ord) (M:List Met) (X:List Out) (Q:List Per) (s:ByteArray) (h:Int):Ann:={X:=Nat×Int,σ:=fun(k,n)=>⟨6,[(1, .one (.str s)),(2, .one (.int .i64 h)),(3, .one (.ptr 5 0)),(7, .one (.int .i64 n)),(8, .one (.int .i64 k))],[(0, .imm 114 De S),(1, .imm 119 Hj O),(2, .imm 121 Dm M),(3, .imm 123 X4 X),(4, .imm 125 Zl Q),(5, .box 37 [.int .i64 tk, .int .i64 st, .sl 0, .sl 1, .sl 2, .sl 3, .sl 4])]⟩,inv:=fun(k,n)=>k≤O.length∧(0≤n∧n≤1000*k)∧n+Vf (O.drop k) s h=Vf O s h,mu:=fun(k,_)=>O.length-k}
def Kp4 (a:Nat×Int) (b:List Ord) (c:Bt) (d:Int):=a.1≤List.length b∧(0≤a.2∧a.2≤1000*Nc a.1)∧a.2+Vf (List.drop a.1 b) c d=Vf b c d
def K1g (a:Nat×Int) (b:List Ord) (c:Bt) (d:Int) (e:Nat×Int):=Kp4 a b c d∧List.length b-a.1<List.length b-e.1
def K0y (a:List Ord) (b:Nat×Int) (c:Bt):=bif Kfn a b c then true else Kfm a b c
theorem Kye:Ok Tryz.prog 101 J2g:=okW Uau Tryz.f101 (fun xx=>Y4 (Js8 xx.1.1 xx.1.2.1 xx.1.2.2.1 xx.1.2.2.2.1 xx.1.2.2.2.2.1 xx.1.2.2.2.2.2.1 xx.1.2.2.2.2.2.2 xx.2.1 xx.2.2.1)) fun xx=>by
 obtain⟨⟨(tk:Int),(st:Int),(S:List Sta),(O:List Ord),(M:List Met),(X:List Out),(Q:List Per)⟩,(s:ByteArray),(h:Int),_⟩:=xx
 refine(by kernel_rfl:(Ju tk st S O M X Q→∃(x:Nat×Int),Sf s (Si h (0=x.2∧Jtu x S O M X Q tk st))∧Kp4 x O s h∧∀(x:Nat×Int),Kp4 x O s h→Br (decide (Nc x.1<Ln O)) (Tw (Bd (Nc x.1) (Ln O))∧(K0y O x s=true→Z79≤(Kmc O x).2)∧Br (bif K0y O x s then J3x O x h else false) (Kq8 x O∧Z46 x∧∃(y:Nat×Int),Sf s (Si h (Kq4 x O y∧Jo8 x y S O M X Q tk st))∧K1g y O s h x) (Z46 x∧∃(y:Nat×Int),Sf s (Si h (Ke6 x y S O M X Q tk st))∧K1g y O s h x)) (x.2=Vf O s h))=_).mp ?_
 delta Z46 Z72 Z79 Z83 Jnb Ju Jem Kfy Kfw Kfu Kft Kfr Kmh Kmf Kmd Kmc Kfn Kfm Krf Kq8 Kq4 Jo9 Jtu Kp4 Jo8 Ke6 K1g K0y Jpd J3x Br Iw Bd Tw Sf Si Ln Nc B0 Lb E2
 intro hr
 have nO:O.length≤32:=hr.nO
 refine⟨((0:Nat),(0:Int)),by simp,⟨Nat.zero_le _,by omega,by simp⟩,fun(x:Nat×Int) hk=>⟨fun h1=> ?_,fun h1=> ?_⟩⟩
 ·obtain⟨k,n⟩:=x
  have hlt:k<O.length:=by simpa using h1
  obtain⟨k1,k2,k3⟩:=hk
  have hO:=hr.ord _ (Je (d:=Jo) hlt)
  rw[Jq (d:=Jo) hlt,Vf] at k3
  have hz:((({data:={toList:=[]}}:ByteArray),({data:={toList:=[]}}:ByteArray),({data:={toList:=[]}}:ByteArray),((0:Int),(0:Int)),(0:Int),(0:Int),(0:Int)):Ord)=Jo:=rfl
  dsimp only at k1 k2 k3
  simp only[hz,Prod.eta]
  generalize O.getD k Jo=y at*
  have hp:=hO.pow
  have ht:=hO.trip
  refine⟨⟨⟨by omega,by omega⟩,by omega,by omega⟩,fun _=>by omega,fun h2=>⟨⟨by omega,by omega⟩,⟨by omega,by omega⟩,(k+1,n+y.2.2.2.2.1),by simp,⟨by(first|omega|dsimp only;omega),by(first|omega|dsimp only;omega), ?_⟩,by(first|omega|dsimp only;omega)⟩,fun h2=>⟨⟨by omega,by omega⟩,(k+1,n),by simp,⟨by(first|omega|dsimp only;omega),by(first|omega|dsimp only;omega), ?_⟩,by(first|omega|dsimp only;omega)⟩⟩
  all_goals (have h2:(bif F3 y s then Jr y h else false)=_:=h2;rw[h2] at k3;simp only[cond_true,cond_false] at k3;(first|omega|dsimp only;omega))
 ·obtain⟨k,n⟩:=x
  have hlt:¬k<O.length:=by simpa using h1
  obtain⟨k1,k2,k3⟩:=hk
  have:k=O.length:=by omega
  rw[this,List.drop_length,Vf] at k3
  exact(Int.add_zero n).symm.trans k3
abbrev Uat:=Uau.add Kye
def J7z:Con:={args:=[Y0,aS,aI],ress:=[I],owns:=[],pre:=fun(r,s,_)=>[Jn r,0≤J6 r.2.2.1 s],spec:=fun((_,_,S,O,_,X,_),s,h,_)=>(X0 S O X s h,())}
theorem Jw7 {S:List Sta} {s:ByteArray} {h:Int}:∀{X:List Out} {n:Int},(∀x∈X,Jpi S x)→0≤n∧n≤1000→0≤Jhg X s h n∧Jhg X s h n≤1000
 |[],_,_,hn=>hn
 |x::l,n,hX,hn=>by
  have hx:=(hX x (List.mem_cons_self ..)).rest
  unfold Jhg
  refine Jw7 (fun y hy=>hX y (List.mem_cons_of_mem _ hy)) ?_
  cases J1e x s h<;>simp only[cond_true,cond_false]<;>omega
theorem Uco:Ok Tryz.prog 28 J7z:=okW Uat Tryz.f28 na fun xx=>by
 obtain⟨⟨(tk:Int),(st:Int),(S:List Sta),(O:List Ord),(M:List Met),(X:List Out),(Q:List Per)⟩,(s:ByteArray),(h:Int),_⟩:=xx
 refine(by kernel_rfl:(Ju tk st S O M X Q→Z26 S s→(Ju tk st S O M X Q∧Z26 S s∧Ju tk st S O M X Q∧Iw (Jhg X s h (Hm S s).2.1-Vf O s h))∧Jhg X s h (Hm S s).2.1-Vf O s h=X0 S O X s h)=_).mp ?_
 delta Z26 Z72 Ju Iw
 intro hr hf
 have h1:=Jet hr.sta hf
 have h2:=Jw7 (s:=s) (h:=h) hr.out (n:=(Hm S s).2.1) ⟨Int.le_trans (by decide) h1.lim.1,h1.lim.2⟩
 have h3:=Jjx (s:=s) (h:=h) hr.ord
 have nO:O.length≤32:=hr.nO
 dsimp only at h2 h3
 exact⟨⟨hr,hf,hr,by omega,by omega⟩,rfl⟩
abbrev Uas:=Uat.add Uco
def X7 (M:List Met) (s:ByteArray) (h:Int):Met×Bool:=if 0≤K6 M s h then(Jak M s h,true) else(Jib,false)
def Ky6:Con:={args:=[Y0,aS,aI],ress:=[(true,Dm),Bo],owns:=[],pre:=fun(r,_)=>[Jn r],spec:=fun((_,_,_,_,M,_),s,h,_)=>((X7 M s h).1,(X7 M s h).2,())}
abbrev J82 (tk st:Int) (S:List Sta) (O:List Ord) (M:List Met) (X:List Out) (Q:List Per) (s:ByteArray) (h:Int):Ann:={X:=Nat,σ:=fun k=>⟨7,[(1, .one (.str s)),(2, .one (.int .i64 h)),(3, .one (.ptr 5 0)),(6, .one (.ptr 6 0)),(8, .one (.int .i64 k))],[(0, .imm 114 De S),(1, .imm 119 Hj O),(2, .imm 121 Dm M),(3, .imm 123 X4 X),(4, .imm 125 Zl Q),(5, .box 37 [.int .i64 tk, .int .i64 st, .sl 0, .sl 1, .sl 2, .sl 3, .sl 4]),(6, .box 121 [.str Jb, .int .i64 0, .int .i64 0, .int .i64 0])]⟩,inv:=fun k=>k≤M.length∧K6 M s h=Vt (fun x=>bif x.1.toList==s.toList then x.2.1==h else false) (M.drop k) k,mu:=fun k=>M.length-k}
def Kqn (a:Nat) (b:List Met) (c:Bt) (d:Int):=a≤List.length b∧K6 b c d=Vt (fun(x:Met)=>bif Lb x.1 c then x.2.1==d else false) (List.drop a b) a
theorem Kyd:Ok Tryz.prog 102 Ky6:=okW Uas Tryz.f102 (fun xx=>Y4 (J82 xx.1.1 xx.1.2.1 xx.1.2.2.1 xx.1.2.2.2.1 xx.1.2.2.2.2.1 xx.1.2.2.2.2.2.1 xx.1.2.2.2.2.2.2 xx.2.1 xx.2.2.1)) fun xx=>by
 obtain⟨⟨(tk:Int),(st:Int),(S:List Sta),(O:List Ord),(M:List Met),(X:List Out),(Q:List Per)⟩,(s:ByteArray),(h:Int),_⟩:=xx
 refine(by kernel_rfl:(Ju tk st S O M X Q→∃(x:Nat),Sf s (Si h (0=Nc x∧Sf S (Sf O (Sf M (Sf X (Sf Q (Si tk (Si st (B0=Jb∧Si 0 Z28)))))))))∧Kqn x M s h∧∀(x:Nat),Kqn x M s h→Br (decide (Nc x<Ln M)) (Tw (Bd (Nc x) (Ln M))∧Br (bif Lb (Knb M x).1 s then(Km8 M x).1==h else false) (Kpb M x=(X7 M s h).1∧true=(X7 M s h).2) (Z20 x∧∃(y:Nat),Sf s (Si h (Vm x y∧Sf S (Sf O (Sf M (Sf X (Sf Q (Si tk (Si st (Sf Jb (Si 0 Z28))))))))))∧Kqn y M s h∧List.length M-y<List.length M-x)) (Jt0=(X7 M s h).1∧false=(X7 M s h).2))=_).mp ?_
 delta Z20 Z28 Z72 Z83 Vm Jt0 Ju Knb Km8 Kqn Kpb Br Iw Bd Tw Sf Si Ln Nc B0 Lb E2
 intro hr
 have nM:M.length≤10000:=hr.nM
 refine⟨(0:Nat),by(repeat' first|exact rfl|exact⟨⟩|apply And.intro|omega|dsimp only;omega),⟨Nat.zero_le _,rfl⟩,fun(k:Nat) hk=>⟨fun h1=> ?_,fun h1=> ?_⟩⟩
 ·have hlt:k<M.length:=by simpa using h1
  obtain⟨k1,k2⟩:=hk
  have hd:=Yi (p:=fun x=>bif x.1.toList==s.toList then x.2.1==h else false) (d:=Jib) hlt
  have hz:((({data:={toList:=[]}}:ByteArray),(0:Int),(0:Int),(0:Int)):Met)=Jib:=rfl
  simp only[hz,Prod.eta]
  refine⟨⟨⟨by omega,by omega⟩,by omega,by omega⟩,fun h2=> ?_,fun h2=>⟨⟨by omega,by omega⟩,(k+1:Nat),by simp,⟨by omega, ?_⟩,by omega⟩⟩
  ·have h2:(bif (M.getD k Jib).1.toList==s.toList then(M.getD k Jib).2.1==h else false)=true:=h2
   have e:K6 M s h=k:=by rw[k2,hd,if_pos h2]
   have e2:X7 M s h=(M.getD k Jib,true):=by
    unfold X7
    rw[if_pos (by omega)]
    unfold Jak
    rw[e];rfl
   rw[e2]
   repeat' first|exact rfl|exact⟨⟩|apply And.intro|omega|dsimp only;omega
  ·have h2:(bif (M.getD k Jib).1.toList==s.toList then(M.getD k Jib).2.1==h else false)=false:=h2
   rw[k2,hd,if_neg (by rw[h2];simp)]
 ·have hlt:¬k<M.length:=by simpa using h1
  obtain⟨k1,k2⟩:=hk
  have:k=M.length:=by omega
  rw[this,List.drop_length,Vt] at k2
  have e2:X7 M s h=(Jib,false):=by
   unfold X7
   rw[if_neg (by omega)]
  rw[e2]
  repeat' first|exact rfl|exact⟨⟩|apply And.intro|omega|dsimp only;omega
abbrev Uar:=Uas.add Kyd
def Ja7 (st:Int) (M:List Met) (x:Ord) (h:Int):Met×Bool:=bif bif decide (st≤h) then true else !Jr x h then(Jib,false) else X7 M x.1 h
def Kij:Con:={args:=[Y0, .val true Hj,aI],ress:=[(true,Dm),Bo],owns:=[],pre:=fun(r,x,_)=>[Jn r,-1≤x.2.2.2.2.2.2],spec:=fun((_,st,_,_,M,_),x,h,_)=>((Ja7 st M x h).1,(Ja7 st M x h).2,())}
theorem Ubv:Ok Tryz.prog 85 Kij:=okW Uar Tryz.f85 na fun xx=>by
 obtain⟨⟨(tk:Int),(st:Int),(S:List Sta),(O:List Ord),(M:List Met),(X:List Out),(Q:List Per)⟩,⟨(n:ByteArray),(f:ByteArray),(t:ByteArray),⟨(a:Int),(b:Int)⟩,(p:Int),(c:Int),(r:Int)⟩,(h:Int),_⟩:=xx
 refine(by kernel_rfl:(Ju tk st S O M X Q→Kno r→(decide (st≤h)=false→Kno r)∧Br (bif decide (st≤h) then true else !Jr (n,f,t,(a,b),p,c,r) h) (Jt0=(Ja7 st M (n,f,t,(a,b),p,c,r) h).1∧false=(Ja7 st M (n,f,t,(a,b),p,c,r) h).2) (Ju tk st S O M X Q∧((X7 M n h).1.1,(X7 M n h).1.2.1,E2 (X7 M n h).1.2.2)=(Ja7 st M (n,f,t,(a,b),p,c,r) h).1∧(X7 M n h).2=(Ja7 st M (n,f,t,(a,b),p,c,r) h).2))=_).mp ?_
 delta Z72 Z79 Z83 Jt0 Kno Ju Br B0 E2
 intro hr ht
 refine⟨fun _=>ht,fun h2=> ?_,fun h2=>⟨hr, ?_⟩⟩
 ·have e:Ja7 st M (n,f,t,(a,b),p,c,r) h=(Jib,false):=by unfold Ja7;rw[show(bif decide (st≤h) then true else !Jr (n,f,t,(a,b),p,c,r) h)=true from h2];rfl
  rw[e]
  repeat' first|exact rfl|exact⟨⟩|apply And.intro|omega|dsimp only;omega
 ·have e:Ja7 st M (n,f,t,(a,b),p,c,r) h=X7 M n h:=by unfold Ja7;rw[show(bif decide (st≤h) then true else !Jr (n,f,t,(a,b),p,c,r) h)=false from h2];rfl
  rw[e]
  repeat' first|exact rfl|exact⟨⟩|apply And.intro|omega|dsimp only;omega
abbrev Uaq:=Uar.add Ubv
def J74:Con:={args:=[Y0,aI],ress:=[(false, .list 198 J4v)],owns:=[true],pre:=fun(r,_)=>[Jn r],spec:=fun((_,_,_,O,M,_),u,_)=>(J4 M u O,())}
abbrev Jx4 (tk st:Int) (S:List Sta) (O:List Ord) (M:List Met) (X:List Out) (Q:List Per) (u:Int):Nat→Option Ann:=fun id=>if id=0 then some {X:=Nat×List Gap,σ:=fun(k,o)=>⟨7,[(1, .one (.int .i64 u)),(2, .one (.ptr 5 0)),(5, .one (.sl 6)),(6, .one (.int .i64 k))],[(0, .imm 114 De S),(1, .imm 119 Hj O),(2, .imm 121 Dm M),(3, .imm 123 X4 X),(4, .imm 125 Zl Q),(5, .box 37 [.int .i64 tk, .int .i64 st, .sl 0, .sl 1, .sl 2, .sl 3, .sl 4]),(6, .own 198 J4v o)]⟩,inv:=fun(k,o)=>k≤O.length∧o.length≤48*k∧o++J4 M u (O.drop k)=J4 M u O,mu:=fun(k,_)=>O.length-k}
 else if id=2 then some {X:=Nat×List Gap×Nat,σ:=fun(k,o,j)=>⟨8,[(1, .one (.int .i64 u)),(2, .one (.ptr 5 0)),(5, .one (.sl 6)),(6, .one (.int .i64 k)),(7, .one (.ptr 7 0)),(8, .one (.int .i64 ((O.getD k Jo).2.2.2.1.1+j)))],[(0, .imm 114 De S),(1, .imm 119 Hj O),(2, .imm 121 Dm M),(3, .imm 123 X4 X),(4, .imm 125 Zl Q),(5, .box 37 [.int .i64 tk, .int .i64 st, .sl 0, .sl 1, .sl 2, .sl 3, .sl 4]),(6, .own 198 J4v o),(7, .box 119 (bxO (O.getD k Jo)))]⟩,inv:=fun(k,o,j)=>k<O.length∧j≤Kz (O.getD k Jo)∧o.length≤48*k+j∧o++(Dg M u (O.getD k Jo) ((O.getD k Jo).2.2.2.1.1+j) (Kz (O.getD k Jo)-j)++J4 M u (O.drop (k+1)))=J4 M u O,mu:=fun(k,_,j)=>Kz (O.getD k Jo)-j,rel:=some fun x y=>y.1=x.1}
 else none
theorem Kyj {M:List Met} {s:ByteArray} {h:Int}:(!(X7 M s h).2)=decide (K6 M s h<0):=by
 unfold X7
 by_cases q:0≤K6 M s h
 ·rw[if_pos q,decide_eq_false (by omega)];rfl
 ·rw[if_neg q,decide_eq_true (by omega)];rfl
def Kdf (a:Nat×List (Bt×Int)×Nat) (b:List Ord) (c:List Met) (d:Int) (e:Nat×List (Bt×Int)×Nat) (f:Nat×List Gap×Nat):=(Jzf a b c d∧a.1=e.1)∧Kz (List.getD b a.1 Jo)-a.2.2<Kz (List.getD b f.1 Jo)-f.2.2
def Kc3 (a:List Ord) (b:Nat×List Gap×Nat) (c:Nat×List (Bt×Int)×Nat):=J92 a b c∧J90 a b c∧J9z a b c∧J9v a b c∧J9u a b c∧J9t a b c∧J9s a b c∧J9r a b c
theorem Ucn:Ok Tryz.prog 29 J74:=okW Uaq Tryz.f29 (fun xx=>Jx4 xx.1.1 xx.1.2.1 xx.1.2.2.1 xx.1.2.2.2.1 xx.1.2.2.2.2.1 xx.1.2.2.2.2.2.1 xx.1.2.2.2.2.2.2 xx.2.1) fun xx=>by
 obtain⟨⟨(tk:Int),(st:Int),(S:List Sta),(O:List Ord),(M:List Met),(X:List Out),(Q:List Per)⟩,(u:Int),_⟩:=xx
 refine(by kernel_rfl:(Ju tk st S O M X Q→∃(x:Nat×List (ByteArray×Int)),Si u (0=Nc x.1∧Sf S (Sf O (Sf M (Sf X (Sf Q (Si tk (Si st (List.length x.2=0))))))))∧Klx x O M u∧∀(x:Nat×List Gap),Kqm x O M u→Br (decide (Nc x.1<Ln O)) (Tw (Bd (Nc x.1) (Ln O))∧∃(x0:Nat×List (ByteArray×Int)×Nat),Si u (Nc x.1=Nc x0.1∧Kpx O x x0∧Sf S (Sf O (Sf M (Sf X (Sf Q (Si tk (Si st (x.2=x0.2.1∧Kl9 O x x0∧Kl7 O x x0∧Klz O x x0∧Klu O x x0∧Klt O x x0∧Kls O x x0∧Klp O x x0∧Klo O x x0))))))))∧(Jzf x0 O M u∧x0.1=x0.1)∧∀(x_1:Nat×List Gap×Nat),J4f x_1 O M u∧x_1.1=x0.1→Br (Kr3 O x_1) (Ju tk st S O M X Q∧(Kge O x_1 u=true→Z79≤(Z85 O x_1).2.2)∧Br (bif bif Kge O x_1 u then Koj O x_1 else false then !(X7 M (Z3 O x_1).1 (J0a O x_1)).2 else false) (Kst x_1∧Kf9 O x_1∧∃(y:Nat×List (ByteArray×Int)×Nat),Si u (Nc x_1.1=Nc y.1∧Kfi O x_1 y∧Sf S (Sf O (Sf M (Sf X (Sf Q (Si tk (Si st (Kqy x_1 O y∧Kc3 O x_1 y))))))))∧Kdf y O M u x0 x_1) (Kf9 O x_1∧∃(y:Nat×List (ByteArray×Int)×Nat),Si u (Nc x_1.1=Nc y.1∧Kfi O x_1 y∧Sf S (Sf O (Sf M (Sf X (Sf Q (Si tk (Si st (x_1.2.1=y.2.1∧Kc3 O x_1 y))))))))∧Kdf y O M u x0 x_1)) (Iw (Nc x_1.1+1)∧∃(y:Nat×List (ByteArray×Int)),Si u (Nc x_1.1+1=Nc y.1∧Sf S (Sf O (Sf M (Sf X (Sf Q (Si tk (Si st (x_1.2.1=y.2))))))))∧Kky y O M u x)) (x.2=J4 M u O))=_).mp ?_
 delta Z3 Z6 Z72 Z79 Z83 Z85 Z88 Z99 J6f Ju J0a J92 J90 J9z Kge Kf9 Jem J9v J9u J9t J9s J9r Kst Ksb Kr7 Kr5 Kr4 Kr3 Kr1 Krx Krt Krr Kfi Kq2 Kl9 Kl7 Kqy Klz Klx Kqm Klu Klt Kls Klp Klo Kpx Kky Koj J4f Jzf Kdf Kc3 Br Iw Bd Tw Sf Si Ln Nc B0 E2
 intro hr
 have nO:O.length≤32:=hr.nO
 have hz:((({data:={toList:=[]}}:ByteArray),({data:={toList:=[]}}:ByteArray),({data:={toList:=[]}}:ByteArray),((0:Int),(0:Int)),(0:Int),(0:Int),(0:Int)):Ord)=Jo:=rfl
 refine⟨((0:Nat),[]),by simp,⟨Nat.zero_le _,Nat.zero_le _,rfl⟩,fun(x:Nat×List Gap) hk=>⟨fun h1=> ?_,fun h1=> ?_⟩⟩
 ·obtain⟨k,o⟩:=x
  have hlt:k<O.length:=by simpa using h1
  obtain⟨k1,k2,k3⟩:=hk
  dsimp only at k1 k2 k3
  rw[Jq (d:=Jo) hlt,J4,Jvu] at k3
  simp only[hz,Prod.eta]
  have hO:Jc2 S (O.getD k Jo):=hr.ord _ (Je (d:=Jo) hlt)
  have b0:=hO.span.lo
  have b1:=hO.span.mid
  have b2:=hO.span.hi
  have b3:=hO.span.len
  have bt:=hO.trip
  have hn:Kz (O.getD k Jo)≤48∧(Kz (O.getD k Jo):Int)=(O.getD k Jo).2.2.2.1.2-(O.getD k Jo).2.2.2.1.1:=by
   unfold Kz
   constructor<;>omega
  refine⟨⟨⟨by omega,by omega⟩,by omega,by omega⟩,(k,o,(0:Nat)),by simp,⟨⟨hlt,Nat.zero_le _,by(first|omega|dsimp only;omega), ?_⟩,by simp⟩,fun(y:Nat×List Gap×Nat) hy=> ?_⟩
  ·dsimp only
   simpa[Kz] using k3
  obtain⟨k',o,j⟩:=y
  obtain⟨⟨i1,i2,i3,i4⟩,hkk⟩:=hy
  have hkk:k'=k:=hkk
  subst hkk
  dsimp only at i1 i2 i3 i4
  refine⟨fun h2=> ?_,fun h2=> ?_⟩
  ·have h2:(O.getD k' Jo).2.2.2.1.1+(j:Int)<(O.getD k' Jo).2.2.2.1.2:=of_decide_eq_true h2
   have hj:Kz (O.getD k' Jo)-j=(Kz (O.getD k' Jo)-(j+1))+1:=by omega
   rw[hj,Dg] at i4
   have hc:(O.getD k' Jo).2.2.2.1.1+(j:Int)+1=(O.getD k' Jo).2.2.2.1.1+((j+1:Nat):Int):=by omega
   rw[hc] at i4
   have hcnd:(bif bif decide ((O.getD k' Jo).2.2.2.1.1+(j:Int)<u) then Jr (O.getD k' Jo) ((O.getD k' Jo).2.2.2.1.1+(j:Int)) else false then !(X7 M (O.getD k' Jo).1 ((O.getD k' Jo).2.2.2.1.1+(j:Int))).2 else false)=(Jr (O.getD k' Jo) ((O.getD k' Jo).2.2.2.1.1+(j:Int))&&(decide ((O.getD k' Jo).2.2.2.1.1+(j:Int)<u)&&decide (K6 M (O.getD k' Jo).1 ((O.getD k' Jo).2.2.2.1.1+(j:Int))<0))):=by
    rw[Kyj]
    cases decide ((O.getD k' Jo).2.2.2.1.1+(j:Int)<u)<;>cases Jr (O.getD k' Jo) ((O.getD k' Jo).2.2.2.1.1+(j:Int))<;>rfl
   refine⟨hr,fun _=>bt.1,fun h3=>⟨by(first|omega|dsimp only;omega),⟨by(first|omega|dsimp only;omega),by(first|omega|dsimp only;omega)⟩,(k',o++[((O.getD k' Jo).1,(O.getD k' Jo).2.2.2.1.1+(j:Int))],j+1),by(repeat' first|exact rfl|exact⟨⟩|apply And.intro|omega|dsimp only;omega),⟨⟨hlt,by(first|omega|dsimp only;omega),by(simp only[List.length_append,List.length_singleton];omega), ?_⟩,by simp⟩,by(first|omega|dsimp only;omega)⟩,fun h3=>⟨⟨by(first|omega|dsimp only;omega),by(first|omega|dsimp only;omega)⟩,(k',o,j+1),by(repeat' first|exact rfl|exact⟨⟩|apply And.intro|omega|dsimp only;omega),⟨⟨hlt,by(first|omega|dsimp only;omega),by(first|omega|dsimp only;omega), ?_⟩,by simp⟩,by(first|omega|dsimp only;omega)⟩⟩
   all_goals (have h3:(bif bif decide ((O.getD k' Jo).2.2.2.1.1+(j:Int)<u) then Jr (O.getD k' Jo) ((O.getD k' Jo).2.2.2.1.1+(j:Int)) else false then !(X7 M (O.getD k' Jo).1 ((O.getD k' Jo).2.2.2.1.1+(j:Int))).2 else false)=_:=h3;rw[hcnd] at h3;rw[h3] at i4;simpa using i4)
  ·have h2:¬(O.getD k' Jo).2.2.2.1.1+(j:Int)<(O.getD k' Jo).2.2.2.1.2:=of_decide_eq_false h2
   have hj:Kz (O.getD k' Jo)-j=0:=by omega
   rw[hj,Dg] at i4
   exact⟨⟨by(first|omega|dsimp only;omega),by(first|omega|dsimp only;omega)⟩,(k'+1,o),by simp,⟨by(first|omega|dsimp only;omega),by(first|omega|dsimp only;omega),by simpa using i4⟩,by(first|omega|dsimp only;omega)⟩
 ·obtain⟨k,o⟩:=x
  have hlt:¬k<O.length:=by simpa using h1
  obtain⟨k1,k2,k3⟩:=hk
  dsimp only at k1 k2 k3
  have:k=O.length:=by omega
  rw[this,List.drop_length,J4,List.append_nil] at k3
  exact k3
abbrev Ues:=Uaq.add Ucn
abbrev Uer:=Ues
abbrev Ueq:=Uer
abbrev Uap:=Ueq
theorem J01 {st:Int} {M:List Met} {x:Ord} (hd:∀h,Jr x h=true→h<st→0≤K6 M x.1 h) (h:Int):Ja7 st M x h=bif Jr x h&&decide (h<st) then(Jak M x.1 h,true) else(Jib,false):=by
 unfold Ja7
 by_cases q:st≤h
 ·rw[decide_eq_true q,decide_eq_false (show ¬h<st by omega),Bool.and_false];rfl
 ·rw[decide_eq_false q,decide_eq_true (show h<st by omega),Bool.and_true,cond_false]
  cases hc:Jr x h with
  |false=>rfl
  |true=>
   simp only[Bool.not_true,cond_false,cond_true]
   unfold X7
   rw[if_pos (hd h hc (by omega))]
def Jo0:Jpl:=(Jb,0,0,0,0,0)
def Kjt:Con:={args:=[Y0],ress:=[(false, .list 234 Jji)],owns:=[true],pre:=fun(r,_)=>[Jn r],spec:=fun((_,st,_,O,M,_),_)=>(O.map (J0 st M),())}
abbrev J2w (tk st:Int) (S:List Sta) (O:List Ord) (M:List Met) (X:List Out) (Q:List Per):Nat→Option Ann:=fun id=>if id=0 then some {X:=Nat,σ:=fun k=>⟨7,[(1, .one (.ptr 5 0)),(3, .one (.sl 6)),(4, .one (.int .i64 k))],[(0, .imm 114 De S),(1, .imm 119 Hj O),(2, .imm 121 Dm M),(3, .imm 123 X4 X),(4, .imm 125 Zl Q),(5, .box 37 [.int .i64 tk, .int .i64 st, .sl 0, .sl 1, .sl 2, .sl 3, .sl 4]),(6, .own 234 Jji ((O.take k).map (J0 st M)))]⟩,inv:=fun k=>k≤O.length,mu:=fun k=>O.length-k}
 else if id=2 then some {X:=Nat×Nat×Lq,σ:=fun(k,j,c,s,g,f)=>⟨9,[(1, .one (.ptr 5 0)),(3, .one (.sl 6)),(4, .one (.int .i64 k)),(5, .one (.ptr 7 0)),(6, .one (.ptr 8 0)),(7, .one (.int .i64 ((O.getD k Jo).2.2.2.1.1+j)))],[(0, .imm 114 De S),(1, .imm 119 Hj O),(2, .imm 121 Dm M),(3, .imm 123 X4 X),(4, .imm 125 Zl Q),(5, .box 37 [.int .i64 tk, .int .i64 st, .sl 0, .sl 1, .sl 2, .sl 3, .sl 4]),(6, .own 234 Jji ((O.take k).map (J0 st M))),(7, .box 119 (bxO (O.getD k Jo))),(8, .box 234 [.str (O.getD k Jo).1, .int .i64 c, .int .i64 s, .int .i64 g, .int .i64 (g*(O.getD k Jo).2.2.2.2.2.1), .int .i64 f])]⟩,inv:=fun(k,j,c,s,g,f)=>k<O.length∧j≤Kz (O.getD k Jo)∧bd4 j (c,s,g,f)∧Jcv st M (O.getD k Jo) ((O.getD k Jo).2.2.2.1.1+j) (Kz (O.getD k Jo)-j) (c,s,g,f)=Hn st M (O.getD k Jo),mu:=fun(k,j,_)=>Kz (O.getD k Jo)-j,rel:=some fun x y=>y.1=x.1}
 else none
def Z22 (a:List Ord) (b:Nat×Nat×Int×Int×Int×Int):=(List.getD a b.1 Jo).2
def Z24 (a:List Ord) (b:Nat×Nat×Lq):=(List.getD a b.1 Jo).2
def Z74 (a:List Ord) (b:Nat×Nat×Int×Int×Int×Int):=(Z22 a b).2.2
def Z84 (a:List Ord) (b:Nat×Nat×Lq):=(Z24 a b).2.2.1
def Z89 (a:List Ord) (b:Nat×Nat×Lq):=(Z24 a b).2.2.2
def J6c (a:List Ord) (b:Nat×Nat×Int×Int×Int×Int):=(Z74 a b).2.2
def J3c (a:List Ord) (b:Nat×Nat×Lq):=(Z89 a b).2
def Khd (a:List Ord) (b:Nat×Nat×Int×Int×Int×Int):=(Z74 a b).1.1
def Ktn (a:List Ord) (b:Nat×Nat×Lq):=(Z84 a b).1+Nc b.2.1
def Ktl (a:Nat×Nat×Lq) (b:List Ord):=a.2.2.2.2.1*(J3c b a).1
def Ktk (a:Nat×Nat×Int×Int×Int×Int) (b:List Ord):=a.2.2.2.2.1*(J6c b a).1
def Km7 (a:List Ord) (b:Nat×Nat×Lq) (c:Nat×Nat×Int×Int×Int×Int):=(List.getD a b.1 Jo).1=(List.getD a c.1 Jo).1
def Kth (a:List Ord) (b:Nat×Nat×Lq):=Ktn a b+1
def Kss:List (ByteArray×Int×Int×Int×Int×Int):=[]
def K6r (a:List Ord) (b:Nat):=(Kfs a b).1
def J23 (a:Int) (b:List Met) (c:List Ord):=List.map (J0 a b) c
def Kmb (a:Int) (b:List Met) (c:Nat) (d:List Ord):=List.map (J0 a b) (List.take c d)
def Kq6 (a:Int) (b:List Met) (c:Nat×Nat×Lq) (d:List Ord):=List.map (J0 a b) (List.take c.1 d)
def K5m (a:Int) (b:List Met) (c:Nat×Nat×Int×Int×Int×Int) (d:List Ord):=List.map (J0 a b) (List.take c.1 d)
def K5c (a:List Ord) (b:Nat×Nat×Lq) (c:Nat×Nat×Int×Int×Int×Int):=Kth a b=Khd a c+Nc c.2.1
def K45 (a:List Ord) (b:Nat) (c:Nat×Nat×Int×Int×Int×Int):=J9n a b=(List.getD a c.1 Jo).1
def K0x (a:Int) (b:List Met) (c:Nat×Nat×Lq) (d:List Ord) (e:Nat×Nat×Int×Int×Int×Int):=Kq6 a b c d=K5m a b e d
def K0j (a:Nat) (b:List Ord) (c:Nat) (d e f g h:Int) (i:List Met):=a<List.length b∧c≤Kz (List.getD b a Jo)∧bd4 (Nc c) (d,e,f,g)∧Jcv h i (List.getD b a Jo) ((List.getD b a Jo).2.2.2.1.1+Nc c) (Kz (List.getD b a Jo)-c) (d,e,f,g)=Hn h i (List.getD b a Jo)
def K0e (a:Int) (b:List Met) (c:List Ord) (d:Nat×Nat×Lq):=Ja7 a b ((List.getD c d.1 Jo).1,(Z24 c d).1,(Z24 c d).2.1,E2 (Z84 c d),(Z89 c d).1,E2 (J3c c d)) (Ktn c d)
def K0c (a:Int) (b:List Met) (c:List Ord) (d:Nat×Nat×Lq):=(K0e a b c d).1.2.2
def Koe (a:Int) (b:List Met) (c:List Ord) (d:Nat×Nat×Lq):=(K0c a b c d).2
def Kz2 (a:Nat×Nat×Lq) (b:Int) (c:List Met) (d:List Ord):=a.2.2.2.1+(K0c b c d a).1
def Kz1 (a:Nat×Nat×Lq) (b:Int) (c:List Met) (d:List Ord):=a.2.2.2.2.1+Koe b c d a
def Kej (a:List Ord) (b:Nat×Nat×Lq) (c:Int) (d:List Met):=(Z89 a b).1-Koe c d a b
def Keh (a:Int) (b:List Met) (c:List Ord) (d:Nat×Nat×Lq):=Koe a b c d*(J3c c d).1
def Kd6 (a:List Ord) (b:Nat×Nat×Lq) (c:Int) (d:List Met):=3*Kej a b c d
def Kd5 (a:Nat×Nat×Int×Int×Int×Int) (b:List Ord) (c:Int) (d:List Met):=match a with|(k,j,c_1,s,g,f)=>K0j k b j c_1 s g f c d
def Kd1 (a:Nat×Nat×Lq) (b:List Ord) (c:Int) (d:List Met):=a.2.2.2.2.2+Kd6 b a c d
def Kdv (a:Nat×Nat×Lq) (b:List Ord) (c:Int) (d:List Met):=Ktl a b+Keh c d b a
def Kde (a:Nat×Nat×Int×Int×Int×Int) (b:List Ord) (c:Int) (d:List Met) (e:Nat×Nat×Int×Int×Int×Int) (f:Nat×Nat×Lq):=(Kd5 a b c d∧a.1=e.1)∧Kz (List.getD b a.1 Jo)-a.2.1<Kz (List.getD b f.1 Jo)-f.2.1
theorem Uce:Ok Tryz.prog 47 Kjt:=okW Uap Tryz.f47 (fun xx=>J2w xx.1.1 xx.1.2.1 xx.1.2.2.1 xx.1.2.2.2.1 xx.1.2.2.2.2.1 xx.1.2.2.2.2.2.1 xx.1.2.2.2.2.2.2) fun xx=>by
 obtain⟨⟨(tk:Int),(st:Int),(S:List Sta),(O:List Ord),(M:List Met),(X:List Out),(Q:List Per)⟩,_⟩:=xx
 refine(by kernel_rfl:(Ju tk st S O M X Q→∃(x:Nat),(0=Nc x∧Sf S (Sf O (Sf M (Sf X (Sf Q (Si tk (Si st (List.length (Kmb st M x O)=0))))))))∧x≤List.length O∧∀(x:Nat),x≤List.length O→Br (decide (Nc x<Ln O)) (Tw (Bd (Nc x) (Ln O))∧∃(x0:Nat×Nat×Int×Int×Int×Int),(Nc x=Nc x0.1∧K6r O x=Khd O x0+Nc x0.2.1∧Sf S (Sf O (Sf M (Sf X (Sf Q (Si tk (Si st (Kmb st M x O=K5m st M x0 O∧K45 O x x0∧Kmn O x=(Z22 O x0).1∧Kmk O x=(Z22 O x0).2.1∧K6r O x=Khd O x0∧(Kfs O x).2=(Z74 O x0).1.2∧Kmg O x=(Z74 O x0).2.1∧(Kfp O x).1=(J6c O x0).1∧(Kfp O x).2=(J6c O x0).2∧K45 O x x0∧0=x0.2.2.1∧0=x0.2.2.2.1∧0=x0.2.2.2.2.1∧0=Ktk x0 O∧0=x0.2.2.2.2.2))))))))∧(Kd5 x0 O st M∧x0.1=x0.1)∧∀(x_1:Nat×Nat×Lq),(match x_1 with|(k,j,c,s,g,f)=>K0j k O j c s g f st M)∧x_1.1=x0.1→Br (decide (Ktn O x_1<(Z84 O x_1).2)) ((Ju tk st S O M X Q∧Z79≤(J3c O x_1).2)∧Br (K0e st M O x_1).2 ((Iw (x_1.2.2.1+1)∧Iw (Kz2 x_1 st M O)∧Iw (Kz1 x_1 st M O))∧(Iw (Keh st M O x_1)∧Iw (Kdv x_1 O st M)∧Iw (Kej O x_1 st M)∧Iw (Kd6 O x_1 st M)∧Iw (Kd1 x_1 O st M))∧Iw (Kth O x_1)∧∃(y:Nat×Nat×Int×Int×Int×Int),(Nc x_1.1=Nc y.1∧K5c O x_1 y∧Sf S (Sf O (Sf M (Sf X (Sf Q (Si tk (Si st (K0x st M x_1 O y∧Km7 O x_1 y∧(Z24 O x_1).1=(Z22 O y).1∧(Z24 O x_1).2.1=(Z22 O y).2.1∧(Z84 O x_1).1=Khd O y∧(Z84 O x_1).2=(Z74 O y).1.2∧(Z89 O x_1).1=(Z74 O y).2.1∧(J3c O x_1).1=(J6c O y).1∧(J3c O x_1).2=(J6c O y).2∧Km7 O x_1 y∧x_1.2.2.1+1=y.2.2.1∧Kz2 x_1 st M O=y.2.2.2.1∧Kz1 x_1 st M O=y.2.2.2.2.1∧Kdv x_1 O st M=Ktk y O∧Kd1 x_1 O st M=y.2.2.2.2.2))))))))∧Kde y O st M x0 x_1) (Iw (Kth O x_1)∧∃(y:Nat×Nat×Int×Int×Int×Int),(Nc x_1.1=Nc y.1∧K5c O x_1 y∧Sf S (Sf O (Sf M (Sf X (Sf Q (Si tk (Si st (K0x st M x_1 O y∧Km7 O x_1 y∧(Z24 O x_1).1=(Z22 O y).1∧(Z24 O x_1).2.1=(Z22 O y).2.1∧(Z84 O x_1).1=Khd O y∧(Z84 O x_1).2=(Z74 O y).1.2∧(Z89 O x_1).1=(Z74 O y).2.1∧(J3c O x_1).1=(J6c O y).1∧(J3c O x_1).2=(J6c O y).2∧Km7 O x_1 y∧x_1.2.2.1=y.2.2.1∧x_1.2.2.2.1=y.2.2.2.1∧x_1.2.2.2.2.1=y.2.2.2.2.1∧Ktl x_1 O=Ktk y O∧x_1.2.2.2.2.2=y.2.2.2.2.2))))))))∧Kde y O st M x0 x_1)) ((List.length (Kq6 st M x_1 O)+1)*56≤140737488355328∧Iw (Nc x_1.1+1)∧∃(y:Nat),(Nc x_1.1+1=Nc y∧Sf S (Sf O (Sf M (Sf X (Sf Q (Si tk (Si st (Kq6 st M x_1 O++((List.getD O x_1.1 Jo).1,x_1.2.2.1,x_1.2.2.2.1,x_1.2.2.2.2.1,Ktl x_1 O,x_1.2.2.2.2.2)::Kss=Kmb st M y O))))))))∧y≤List.length O∧J58 O y x)) (Kmb st M x O=J23 st M O))=_).mp ?_
 delta Z22 Z24 Z72 Z74 Z79 Z83 Z84 Z89 J6c J3c Khd Ju J58 Ktn Ktl Ktk Km7 Kth Jem Kss Kfz J9n Kmo Kmn Kmm Kml Kmk Kfs Kmi Kmg K6r Kfp J23 Kmb Kq6 K5m K5c K45 K0x K0j K0e K0c Koe Kz2 Kz1 Kej Keh Kd6 Kd5 Kd1 Kdv Kde Br Iw Bd Tw Sf Si Ln Nc B0 E2
 intro hr
 have nO:O.length≤32:=hr.nO
 have hz:((({data:={toList:=[]}}:ByteArray),({data:={toList:=[]}}:ByteArray),({data:={toList:=[]}}:ByteArray),((0:Int),(0:Int)),(0:Int),(0:Int),(0:Int)):Ord)=Jo:=rfl
 refine⟨(0:Nat),by simp,Nat.zero_le _,fun(k:Nat) hk=>⟨fun h1=> ?_,fun h1=> ?_⟩⟩
 ·have hlt:k<O.length:=by simpa using h1
  simp only[hz,Prod.eta]
  have hO:Jc2 S (O.getD k Jo):=hr.ord _ (Je (d:=Jo) hlt)
  have hd:∀h,Jr (O.getD k Jo) h=true→h<st→0≤K6 M (O.getD k Jo).1 h:=hr.done _ (Je (d:=Jo) hlt)
  have hD:∀h,Ja7 st M (O.getD k Jo) h=bif Jr (O.getD k Jo) h&&decide (h<st) then(Jak M (O.getD k Jo).1 h,true) else(Jib,false):=J01 hd
  have b0:=hO.span.lo
  have b1:=hO.span.mid
  have b2:=hO.span.hi
  have b3:=hO.span.len
  have bt:=hO.trip
  have bp:=hO.pow
  have bc:=hO.pri
  have hn:Kz (O.getD k Jo)≤48∧(Kz (O.getD k Jo):Int)=(O.getD k Jo).2.2.2.1.2-(O.getD k Jo).2.2.2.1.1:=by
   unfold Kz
   constructor<;>omega
  refine⟨⟨⟨by omega,by omega⟩,by omega,by omega⟩,(k,(0:Nat),0,0,0,0), ?_,⟨⟨hlt,Nat.zero_le _,by unfold bd4;simp, ?_⟩,by simp⟩,fun(y:Nat×Nat×Lq) hy=> ?_⟩
  ·simp only[Int.zero_mul]
   repeat' first|exact rfl|exact⟨⟩|apply And.intro|omega|dsimp only;omega
  ·unfold Hn
   simp only[Nat.sub_zero,Int.natCast_zero,Int.add_zero]
  obtain⟨k',j,c,s,g,f⟩:=y
  obtain⟨⟨i1,i2,i3,i4⟩,hkk⟩:=hy
  have hkk:k'=k:=hkk
  subst hkk
  dsimp only at i1 i2 i3 i4
  unfold bd4 at i3
  dsimp only at i3
  refine⟨fun h2=> ?_,fun h2=> ?_⟩
  ·have h2:(O.getD k' Jo).2.2.2.1.1+(j:Int)<(O.getD k' Jo).2.2.2.1.2:=of_decide_eq_true h2
   have hj:Kz (O.getD k' Jo)-j=(Kz (O.getD k' Jo)-(j+1))+1:=by omega
   rw[hj,Jcv] at i4
   have hc:(O.getD k' Jo).2.2.2.1.1+(j:Int)+1=(O.getD k' Jo).2.2.2.1.1+((j+1:Nat):Int):=by omega
   rw[hc] at i4
   simp only[hD]
   cases hq:Jr (O.getD k' Jo) ((O.getD k' Jo).2.2.2.1.1+(j:Int))&&decide (((O.getD k' Jo).2.2.2.1.1+(j:Int))<st) with
   |false=>
    rw[hq,cond_false] at i4
    simp only[hq,cond_false]
    exact⟨⟨hr,bt.1⟩,fun h=>(by cases h),fun _=>⟨⟨by omega,by omega⟩,(k',j+1,c,s,g,f),by(repeat' first|exact rfl|exact⟨⟩|apply And.intro|omega|dsimp only;omega),⟨⟨hlt,by(first|omega|dsimp only;omega),by unfold bd4;(first|omega|dsimp only;omega),i4⟩,rfl⟩,by(first|omega|dsimp only;omega)⟩⟩
   |true=>
    rw[hq,cond_true] at i4
    simp only[hq,cond_true]
    have hq:=Bool.and_eq_true_iff.1 hq
    have hm:=hd _ hq.1 (of_decide_eq_true hq.2)
    have hl:=Jbe (l:=M) (s:=(O.getD k' Jo).1) (h:=((O.getD k' Jo).2.2.2.1.1+(j:Int)))
    have hM:Jtn (Jak M (O.getD k' Jo).1 ((O.getD k' Jo).2.2.2.1.1+(j:Int))):=hr.met _ (Je (show _<M.length by omega))
    have m1:=hM.sent
    have m2:=hM.got
    have q1:0≤(Jak M (O.getD k' Jo).1 ((O.getD k' Jo).2.2.2.1.1+(j:Int))).2.2.2*(O.getD k' Jo).2.2.2.2.2.1:=Int.mul_nonneg m2.1 bc.1
    have q2:(Jak M (O.getD k' Jo).1 ((O.getD k' Jo).2.2.2.1.1+(j:Int))).2.2.2*(O.getD k' Jo).2.2.2.2.2.1≤1000*1000:=Int.mul_le_mul (by omega) bc.2 bc.1 (by decide)
    have q3:0≤g*(O.getD k' Jo).2.2.2.2.2.1:=Int.mul_nonneg i3.2.2.1.1 bc.1
    have q4:g*(O.getD k' Jo).2.2.2.2.2.1≤48000*1000:=Int.mul_le_mul (by omega) bc.2 bc.1 (by decide)
    refine⟨⟨hr,bt.1⟩,fun _=>⟨⟨⟨by omega,by omega⟩,⟨by omega,by omega⟩,by omega,by omega⟩,⟨⟨by omega,by omega⟩,⟨by omega,by omega⟩,⟨by omega,by omega⟩,⟨by omega,by omega⟩,by omega,by omega⟩,⟨by omega,by omega⟩,(k',j+1,c+1,s+(Jak M (O.getD k' Jo).1 ((O.getD k' Jo).2.2.2.1.1+(j:Int))).2.2.1,g+(Jak M (O.getD k' Jo).1 ((O.getD k' Jo).2.2.2.1.1+(j:Int))).2.2.2,f+3*((O.getD k' Jo).2.2.2.2.1-(Jak M (O.getD k' Jo).1 ((O.getD k' Jo).2.2.2.1.1+(j:Int))).2.2.2)), ?_,⟨⟨hlt,by(first|omega|dsimp only;omega),by unfold bd4;(first|omega|dsimp only;omega),i4⟩,rfl⟩,by(first|omega|dsimp only;omega)⟩,fun h=>(by cases h)⟩
    simp only[Int.add_mul]
    repeat' first|exact rfl|exact⟨⟩|apply And.intro|omega|dsimp only;omega
  ·have h2:¬(O.getD k' Jo).2.2.2.1.1+(j:Int)<(O.getD k' Jo).2.2.2.1.2:=of_decide_eq_false h2
   have hj:Kz (O.getD k' Jo)-j=0:=by omega
   rw[hj,Jcv] at i4
   have e:J0 st M (O.getD k' Jo)=((O.getD k' Jo).1,c,s,g,g*(O.getD k' Jo).2.2.2.2.2.1,f):=by unfold J0;rw[←i4]
   refine⟨by(simp only[List.length_map,List.length_take];omega),⟨by(first|omega|dsimp only;omega),by(first|omega|dsimp only;omega)⟩,(k'+1:Nat),⟨by simp,trivial,trivial,trivial,trivial,trivial,trivial,trivial, ?_⟩,by(first|omega|dsimp only;omega),by(first|omega|dsimp only;omega)⟩
   rw[←Km (d:=Jo) hlt,List.map_append,List.map_singleton,e]
 ·have hlt:¬k<O.length:=by simpa using h1
  rw[List.take_of_length_le (by omega)]
abbrev Uao:=Uap.add Uce
def Kjx:Con:={args:=[Y0,aS,aS],ress:=[I],owns:=[],pre:=fun(r,_)=>[Jn r],spec:=fun((_,st,_,O,M,_),a,b,_)=>(Hp st O M a b,())}
abbrev J2y (tk st:Int) (S:List Sta) (O:List Ord) (M:List Met) (X:List Out) (Q:List Per) (a b:ByteArray):Ann:={X:=Nat×Int,σ:=fun(k,n)=>⟨7,[(1, .one (.str a)),(2, .one (.str b)),(3, .one (.ptr 5 0)),(7, .one (.sl 6)),(8, .one (.int .i64 n)),(9, .one (.int .i64 k))],[(0, .imm 114 De S),(1, .imm 119 Hj O),(2, .imm 121 Dm M),(3, .imm 123 X4 X),(4, .imm 125 Zl Q),(5, .box 37 [.int .i64 tk, .int .i64 st, .sl 0, .sl 1, .sl 2, .sl 3, .sl 4]),(6, .own 234 Jji (O.map (J0 st M)))]⟩,inv:=fun(k,n)=>k≤O.length∧(-100000000*k≤n∧n≤100000000*k)∧Jna st M a b (O.drop k) n=Hp st O M a b,mu:=fun(k,_)=>O.length-k}
theorem Jd9 {α β:Type} {f:α→β} {d:α} {d':β}:∀{l:List α} {k:Nat},k<l.length→(l.map f).getD k d'=f (l.getD k d)
 |[],_,h=>by cases h
 |x::l,0,_=>rfl
 |x::l,k+1,h=>by
  rw[List.map_cons,List.getD_cons_succ,List.getD_cons_succ]
  exact Jd9 (by simpa using h)
def Kgk:=(B0,(0:Int),(0:Int),Z83)
def Kla (a:Int) (b:List Met) (c:List Ord):=Ln (J23 a b c)
def J9g (a:Nat×Int) (b:Int) (c:List Met) (d:List Ord):=Bd (Nc a.1) (Kla b c d)
def Kow (a:List Ord) (b:Nat×Int) (c d:Bt):=bif Kfn a b c then Kfm a b d else false
def K0r (a:Int) (b:List Met) (c:List Ord) (d:Nat×Int):=(List.getD (J23 a b c) d.1 Kgk).2.2.2.2
def Koo (a:Int) (b:List Met) (c:List Ord) (d:Nat×Int):=(K0r a b c d).2
def Kon (a:Int) (b:List Met) (c:List Ord) (d:Nat×Int):=(K0r a b c d).1
def K0p (a:Nat×Int) (b:Int) (c:List Met) (d:List Ord):=a.2+Kon b c d a
def K0o (a:Nat×Int) (b:Int) (c:List Met) (d:List Ord):=a.2-Kon b c d a
def Kzz (a:List Sta) (b:List Ord) (c:List Met) (d:List Out) (e:List Per) (f g:Int):=Sf a (Sf b (Sf c (Sf d (Sf e (Si f (Si g (J23 g c b=J23 g c b)))))))
def Jzd (a b:Nat×Int) (c:List Sta) (d:List Ord) (e:List Met) (f:List Out) (g:List Per) (h i:Int):=Jnb a b∧Kzz c d e f g h i
def Kc7 (a:Nat×Int) (b:Int) (c:List Met) (d:List Ord):=K0o a b c d+Koo b c d a
def J30 (a:Nat×Int) (b:Int) (c:List Met) (d:List Ord):=K0p a b c d-Koo b c d a
def Kcp (a:Nat×Int) (b:Int) (c:List Met) (d:List Ord):=J30 a b c d-Kon b c d a
def Kbc (a:Nat×Int) (b:Int) (c:List Met) (d:List Ord):=Kcp a b c d+Koo b c d a
theorem Ucd:Ok Tryz.prog 49 Kjx:=okW Uao Tryz.f49 (fun xx=>Y4 (J2y xx.1.1 xx.1.2.1 xx.1.2.2.1 xx.1.2.2.2.1 xx.1.2.2.2.2.1 xx.1.2.2.2.2.2.1 xx.1.2.2.2.2.2.2 xx.2.1 xx.2.2.1)) fun xx=>by
 obtain⟨⟨(tk:Int),(st:Int),(S:List Sta),(O:List Ord),(M:List Met),(X:List Out),(Q:List Per)⟩,(a:ByteArray),(b:ByteArray),_⟩:=xx
 refine(by kernel_rfl:(Ju tk st S O M X Q→Ju tk st S O M X Q∧∃(x:Nat×Int),Sf a (Sf b (0=x.2∧0=Nc x.1∧Kzz S O M X Q tk st))∧J9h x O st M a b∧∀(x:Nat×Int),J9h x O st M a b→Br (decide (Nc x.1<Kla st M O)) (Tw (Bd (Nc x.1) (Ln O))∧Br (Kow O x a b) (T2 (J9g x st M O) (Iw (K0p x st M O)∧T2 (J9g x st M O) (Iw (J30 x st M O)))∧Br (Kow O x b a) (T2 (J9g x st M O) (Iw (Kcp x st M O)∧T2 (J9g x st M O) (Iw (Kbc x st M O)))∧Z46 x∧∃(y:Nat×Int),Sf a (Sf b (Kbc x st M O=y.2∧Jzd x y S O M X Q tk st))∧Jzv y O st M a b x) (Z46 x∧∃(y:Nat×Int),Sf a (Sf b (J30 x st M O=y.2∧Jzd x y S O M X Q tk st))∧Jzv y O st M a b x)) (Br (Kow O x b a) (T2 (J9g x st M O) (Iw (K0o x st M O)∧T2 (J9g x st M O) (Iw (Kc7 x st M O)))∧Z46 x∧∃(y:Nat×Int),Sf a (Sf b (Kc7 x st M O=y.2∧Jzd x y S O M X Q tk st))∧Jzv y O st M a b x) (Z46 x∧∃(y:Nat×Int),Sf a (Sf b (x.2=y.2∧Jzd x y S O M X Q tk st))∧Jzv y O st M a b x))) (x.2=Hp st O M a b))=_).mp ?_
 delta Z46 Z72 Z83 Jnb Ju Kgk Jem Kfy Kfw Kfu Kft Kfr J23 Kfn Kfm Kla J9h J9g Kow K0r Jzv Koo Kon K0p K0o Kzz Jzd Kc7 J30 Kcp Kbc Br Iw Bd T2 Tw Sf Si Ln Nc B0 Lb
 intro hr
 have nO:O.length≤32:=hr.nO
 have hlen:(O.map (J0 st M)).length=O.length:=List.length_map _
 refine⟨hr,((0:Nat),(0:Int)),by simp,⟨Nat.zero_le _,by omega,rfl⟩,fun(x:Nat×Int) hk=>⟨fun h1=> ?_,fun h1=> ?_⟩⟩
 ·obtain⟨k,n⟩:=x
  have hlt:k<O.length:=by simpa[hlen] using h1
  have hx:=Je (d:=Jo) hlt
  have hb:=L0 hr hx
  obtain⟨k1,k2,k3⟩:=hk
  rw[Jq (d:=Jo) hlt,Jna] at k3
  have m1:=hb.money
  have m2:=hb.fine
  have hz:((({data:={toList:=[]}}:ByteArray),({data:={toList:=[]}}:ByteArray),({data:={toList:=[]}}:ByteArray),((0:Int),(0:Int)),(0:Int),(0:Int),(0:Int)):Ord)=Jo:=rfl
  have hzb:((({data:={toList:=[]}}:ByteArray),(0:Int),(0:Int),(0:Int),(0:Int),(0:Int)):Jpl)=Jo0:=rfl
  have hB:(O.map (J0 st M)).getD k Jo0=J0 st M (O.getD k Jo):=Jd9 hlt
  dsimp only at k1 k2 k3
  simp only[hz,hzb,hB,hlen,Prod.eta]
  clear hB
  generalize O.getD k Jo=y at*
  have k3:Jna st M a b (List.drop (k+1) O) (bif Xk y b a then(bif Xk y a b then n+((J0 st M y).2.2.2.2.1-(J0 st M y).2.2.2.2.2) else n)-((J0 st M y).2.2.2.2.1-(J0 st M y).2.2.2.2.2) else(bif Xk y a b then n+((J0 st M y).2.2.2.2.1-(J0 st M y).2.2.2.2.2) else n))=Hp st O M a b:=k3
  have e1:∀c d,(bif y.2.1.toList==c.toList then y.2.2.1.toList==d.toList else false)=Xk y c d:=fun c d=>by
   unfold Xk
   cases y.2.1.toList==c.toList<;>simp
  simp only[e1]
  have fin:∀v,(bif Xk y b a then(bif Xk y a b then n+((J0 st M y).2.2.2.2.1-(J0 st M y).2.2.2.2.2) else n)-((J0 st M y).2.2.2.2.1-(J0 st M y).2.2.2.2.2) else(bif Xk y a b then n+((J0 st M y).2.2.2.2.1-(J0 st M y).2.2.2.2.2) else n))=v→Jna st M a b (List.drop (k+1) O) v=Hp st O M a b:=fun v e=>e▸k3
  refine⟨by omega,fun h2=>⟨by omega,fun h3=>⟨by omega,by omega,(k+1,n+(J0 st M y).2.2.2.2.1-(J0 st M y).2.2.2.2.2-(J0 st M y).2.2.2.2.1+(J0 st M y).2.2.2.2.2),by simp,⟨by(first|omega|dsimp only;omega),by(first|omega|dsimp only;omega), ?_⟩,by(first|omega|dsimp only;omega)⟩,fun h3=>⟨by omega,(k+1,n+(J0 st M y).2.2.2.2.1-(J0 st M y).2.2.2.2.2),by simp,⟨by(first|omega|dsimp only;omega),by(first|omega|dsimp only;omega), ?_⟩,by(first|omega|dsimp only;omega)⟩⟩,fun h2=>⟨fun h3=>⟨by omega,by omega,(k+1,n-(J0 st M y).2.2.2.2.1+(J0 st M y).2.2.2.2.2),by simp,⟨by(first|omega|dsimp only;omega),by(first|omega|dsimp only;omega), ?_⟩,by(first|omega|dsimp only;omega)⟩,fun h3=>⟨by omega,(k+1,n),by simp,⟨by(first|omega|dsimp only;omega),by(first|omega|dsimp only;omega), ?_⟩,by(first|omega|dsimp only;omega)⟩⟩⟩
  all_goals (apply fin;rw[h2,h3];simp only[cond_true,cond_false];try omega)
 ·obtain⟨k,n⟩:=x
  have hlt:¬k<O.length:=by simpa[hlen] using h1
  obtain⟨k1,k2,k3⟩:=hk
  have:k=O.length:=by omega
  rw[this,List.drop_length,Jna] at k3
  exact k3
abbrev Uan:=Uao.add Ucd
def Kju:Con:={args:=[Y0,aS],ress:=[I],owns:=[],pre:=fun(r,_)=>[Jn r],spec:=fun((_,st,S,O,M,_),s,_)=>(Jo2 st S O M s,())}
abbrev J2x (tk st:Int) (S:List Sta) (O:List Ord) (M:List Met) (X:List Out) (Q:List Per) (s:ByteArray):Ann:={X:=Nat×Int,σ:=fun(k,n)=>⟨6,[(1, .one (.str s)),(2, .one (.ptr 5 0)),(5, .one (.int .i64 n)),(6, .one (.int .i64 k))],[(0, .imm 114 De S),(1, .imm 119 Hj O),(2, .imm 121 Dm M),(3, .imm 123 X4 X),(4, .imm 125 Zl Q),(5, .box 37 [.int .i64 tk, .int .i64 st, .sl 0, .sl 1, .sl 2, .sl 3, .sl 4])]⟩,inv:=fun(k,n)=>k≤S.length∧(-3200000000*k≤n∧n≤3200000000*k)∧Js5 st O M s (S.drop k) n=Jo2 st S O M s,mu:=fun(k,_)=>S.length-k}
theorem Ucc:Ok Tryz.prog 50 Kju:=okW Uan Tryz.f50 (fun xx=>Y4 (J2x xx.1.1 xx.1.2.1 xx.1.2.2.1 xx.1.2.2.2.1 xx.1.2.2.2.2.1 xx.1.2.2.2.2.2.1 xx.1.2.2.2.2.2.2 xx.2.1)) fun xx=>by
 obtain⟨⟨(tk:Int),(st:Int),(S:List Sta),(O:List Ord),(M:List Met),(X:List Out),(Q:List Per)⟩,(s:ByteArray),_⟩:=xx
 refine(by kernel_rfl:(Ju tk st S O M X Q→∃(x:Nat×Int),Sf s (0=x.2∧Jtu x S O M X Q tk st)∧J9i x S st O M s∧∀(x:Nat×Int),J9i x S st O M s→Br (decide (Nc x.1<Ln S)) (Tw (Bd (Nc x.1) (Ln S))∧Br (!Lb (Kne S x) s) ((Ju tk st S O M X Q∧Iw (Kf4 x st O M s S))∧Z46 x∧∃(y:Nat×Int),Sf s (Kf4 x st O M s S=y.2∧Jo8 x y S O M X Q tk st)∧Ke2 y S st O M s x) (Z46 x∧∃(y:Nat×Int),Sf s (Ke6 x y S O M X Q tk st)∧Ke2 y S st O M s x)) (x.2=Jo2 st S O M s))=_).mp ?_
 delta Z12 Z46 Z72 Jnb Ju Kne Kf4 Jo9 Jtu Jo8 Ke6 J9i Ke2 Br Iw Bd Tw Sf Si Ln Nc B0 Lb
 intro hr
 have nS:S.length≤6:=hr.nS
 refine⟨((0:Nat),(0:Int)),by simp,⟨Nat.zero_le _,by omega,rfl⟩,fun(x:Nat×Int) hk=>⟨fun h1=> ?_,fun h1=> ?_⟩⟩
 ·obtain⟨k,n⟩:=x
  have hlt:k<S.length:=by simpa using h1
  obtain⟨k1,k2,k3⟩:=hk
  rw[Jq (d:=Jnt) hlt,Js5] at k3
  have hz:((({data:={toList:=[]}}:ByteArray),(0:Int),(0:Int)):Sta)=Jnt:=rfl
  dsimp only at k1 k2 k3
  simp only[hz,Prod.eta]
  generalize S.getD k Jnt=y at*
  have hb:=Jkn (a:=s) (b:=y.1) hr
  refine⟨⟨⟨by omega,by omega⟩,by omega,by omega⟩,fun h2=>⟨⟨hr,by omega,by omega⟩,⟨by omega,by omega⟩,(k+1,n+Hp st O M s y.1),by simp,⟨by(first|omega|dsimp only;omega),by(first|omega|dsimp only;omega), ?_⟩,by(first|omega|dsimp only;omega)⟩,fun h2=>⟨⟨by omega,by omega⟩,(k+1,n),by simp,⟨by(first|omega|dsimp only;omega),by(first|omega|dsimp only;omega), ?_⟩,by(first|omega|dsimp only;omega)⟩⟩
  all_goals (have h2:(y.1.toList !=s.toList)=_:=h2;rw[h2] at k3;exact k3)
 ·obtain⟨k,n⟩:=x
  have hlt:¬k<S.length:=by simpa using h1
  obtain⟨k1,k2,k3⟩:=hk
  have:k=S.length:=by omega
  rw[this,List.drop_length,Js5] at k3
  exact k3
abbrev Uep:=Uan.add Ucc
abbrev sH3:Sch:= .prod sI (.prod sI sI)
abbrev H3:=Int×Int×Int
def Kh8 (M:List Met) (h:Int) (x:Ord) (a:H3):H3:=bif Jr x h then(a.1+(Jak M x.1 h).2.2.1,a.2.1+(Jak M x.1 h).2.2.2,a.2.2+((Jak M x.1 h).2.2.2*x.2.2.2.2.2.1-3*(x.2.2.2.2.1-(Jak M x.1 h).2.2.2))) else a
def Jok (M:List Met) (h:Int):List Ord→H3→H3
 |[],a=>a
 |x::l,a=>Jok M h l (Kh8 M h x a)
abbrev Ueo:=Uep
def Jul:List Jpl→Int×Int→Int×Int
 |[],a=>a
 |b::l,(s,g)=>Jul l (s+b.2.2.1,g+b.2.2.2.1)
def Kh4 (st:Int) (O:List Ord) (M:List Met):(Int×Int)×Int:=if(Jul (O.map (J0 st M)) (0,0)).1=0 then((0,0),6) else(J44 ((Jul (O.map (J0 st M)) (0,0)).1-(Jul (O.map (J0 st M)) (0,0)).2) (Jul (O.map (J0 st M)) (0,0)).1,0)
abbrev Uam:=Ueo
def Jha (l:List Ev) (h:Int):Int:=Jg [opE l [],Kr h 0 999999999,bif decide ((J7 l).2.1≤h) then 22 else 0]
def Jl9 (l:List Ev) (h:Int):H3:=if Jha l h=0 then Jok (J7 l).2.2.2.2.1 h (J7 l).2.2.2.1 (0,0,0) else(0,0,0)
def J8a:Con:={args:=[.val false (.list 67 sEv),aI],ress:=[(true,sH3),I],owns:=[],pre:=fun(l,_)=>[lOk l],spec:=fun(l,h,_)=>(Jl9 l h,Jha l h,())}
abbrev imR (r:Reg) (i:Nat):List (Nat×Res):=[(i, .imm 127 De r.2.2.1),(i+1, .imm 130 Hj r.2.2.2.1),(i+2, .imm 155 Dm r.2.2.2.2.1),(i+3, .imm 188 X4 r.2.2.2.2.2.1),(i+4, .imm 235 Zl r.2.2.2.2.2.2)]
abbrev bxR (r:Reg) (i:Nat):Res:= .box 105 [.int .i64 r.1, .int .i64 r.2.1, .sl i, .sl (i+1), .sl (i+2), .sl (i+3), .sl (i+4)]
abbrev J84 (l:List Ev) (h:Int):Ann:={X:=Nat×H3,σ:=fun(k,a,b,c)=>⟨9,[(1, .one (.int .i64 h)),(4, .one (.ptr 1 0)),(6, .one (.ptr 7 0)),(9, .one (.ptr 8 0)),(33, .one (.sl 3)),(34, .one (.int .i64 (J7 l).2.2.2.1.length)),(35, .one (.int .i64 k))],(1, .box 25 [.int .i64 0, .int .i64 0, .int .i64 0])::(7,bxR (J7 l) 2)::(8, .box 25 [.int .i64 a, .int .i64 b, .int .i64 c])::imR (J7 l) 2⟩,inv:=fun(k,a,b,c)=>Jha l h=0∧k≤(J7 l).2.2.2.1.length∧(0≤a∧a≤1000*k)∧(0≤b∧b≤1000*k)∧(-2000000*k≤c∧c≤2000000*k)∧Jok (J7 l).2.2.2.2.1 h ((J7 l).2.2.2.1.drop k) (a,b,c)=Jl9 l h,mu:=fun(k,_)=>(J7 l).2.2.2.1.length-k}
theorem J7n {a b c:Int} (h:Jg [a,b,c]=0):a=0∧b=0∧c=0:=by
 have h:=Uy.1 h
 exact⟨h a (by simp),h b (by simp),h c (by simp)⟩
def Z32 (a:List Ev):=Ln (J7 a).2.2.2.1
def Knl (a:List Ev):=(J7 a).2.2.2.1=(J7 a).2.2.2.1
def Kni (a:List Ev):=(J7 a).2.2.2.2.1=(J7 a).2.2.2.2.1
def Kng (a:List Ev):=(J7 a).2.2.2.2.2.1=(J7 a).2.2.2.2.2.1
def Knf (a:List Ev):=(J7 a).2.2.2.2.2.2=(J7 a).2.2.2.2.2.2
def K59 (a:List Ev) (b:Nat×H3):=List.getD (J7 a).2.2.2.1 b.1 Jem
def K57 (a:List Ev) (b:Nat×H3):=(K59 a b).2
def K55 (a:List Ev) (b:Nat×H3):=(K59 a b).1
def K53 (a:List Ev) (b:Nat×H3):=(K57 a b).2
def K51 (a:List Ev) (b:Nat×H3):=(K53 a b).2
def K5v (a:List Ev) (b:Nat×H3):=(K51 a b).2
def K5r (a:List Ev) (b:Nat×H3):=(K5v a b).1
def K5q (a:List Ev) (b:Nat×H3):=(K5v a b).2
def K3b (a:List Ev) (b:Nat×H3) (c:Int):=K6 (J7 a).2.2.2.2.1 (K55 a b) c
def K25 (a:List Ev) (b:Int):=Jg [opE a [],Z80 b,bif decide ((J7 a).2.1≤b) then 22 else 0]
def K1b (a:List Ev) (b:Nat×H3) (c:Int):=(Gt (J7 a).2.2.2.2.1 (K3b a b c) Jt0).2.2
def Ko4 (a:List Ev) (b:Nat×H3) (c:Int):=(K1b a b c).2
def K08 (a:Nat×H3) (b:List Ev) (c:Int):=a.2.1+(K1b b a c).1
def K02 (a:Nat×H3) (b:List Ev) (c:Int):=a.2.2.1+Ko4 b a c
def Kox (a:List Ev):=(J7 a).2.2.1=(J7 a).2.2.1∧Knl a∧Kni a∧Kng a∧Knf a
def Keo (a:List Ev) (b:Nat×H3) (c:Int):=K5r a b-Ko4 a b c
def Kem (a:List Ev) (b:Nat×H3) (c:Int):=Ko4 a b c*(K5q a b).1
def Keb (a:List Ev) (b:Nat×H3) (c:Int):=3*Keo a b c
def Kd3 (a:List Ev) (b:Int) (c:Nat) (d e f:Int):=Jha a b=0∧c≤List.length (J7 a).2.2.2.1∧Kgv d c∧Kgv e c∧((-2000000)*Nc c≤f∧f≤2000000*Nc c)∧Jok (J7 a).2.2.2.2.1 b (List.drop c (J7 a).2.2.2.1) (d,e,f)=Jl9 a b
def Kdq (a:Nat×Int×Int×Int) (b:List Ev) (c:Int):=match a with|(k,a,b_1,c_1)=>Kd3 b c k a b_1 c_1
def Kda (a:Nat×Int×Int×Int) (b:List Ev) (c:Int) (d:Nat×H3):=Kdq a b c∧List.length (J7 b).2.2.2.1-a.1<List.length (J7 b).2.2.2.1-d.1
def Kcu (a:List Ev) (b:Nat×H3) (c:Int):=Kem a b c-Keb a b c
def Kct (a:Nat×H3) (b:List Ev) (c:Int):=a.2.2.2+Kcu b a c
theorem Ucu:Ok Tryz.prog 15 J8a:=okW Uam Tryz.f15 (fun xx=>Y4 (J84 xx.1 xx.2.1)) fun xx=>by
 obtain⟨(l:List Ev),(h:Int),_⟩:=xx
 refine(by kernel_rfl:(lOk l→(lOk l∧0≤1000000)∧3≤1000000∧Br (K25 l h !=0) (Z83=Jl9 l h∧K25 l h=Jha l h) (∃(x:Nat×Int×Int×Int),Si h (Z32 l=Z32 l∧0=Nc x.1∧Si 0 (Si 0 (Si 0 ((J7 l).1=(J7 l).1∧(J7 l).2.1=(J7 l).2.1∧0=x.2.1∧0=x.2.2.1∧0=x.2.2.2∧Kox l))))∧Kdq x l h∧∀(x:Nat×H3),(match x with|(k,a,b,c)=>Kd3 l h k a b c)→Br (decide (Nc x.1<Z32 l)) (Tw (Bd (Nc x.1) (Z32 l))∧Br (Jr (K55 l x,(K57 l x).1,(K53 l x).1,E2 (K51 l x).1,K5r l x,E2 (K5q l x)) h) ((Jzy l∧Tw (Bd (K3b l x h) (Ln (J7 l).2.2.2.2.1)))∧Iw (K08 x l h)∧Iw (K02 x l h)∧(Iw (Kem l x h)∧Iw (Keo l x h)∧Iw (Keb l x h)∧Iw (Kcu l x h)∧Iw (Kct x l h))∧Iw (Nc x.1+1)∧∃(y:Nat×Int×Int×Int),Si h (Si (Z32 l) (Nc x.1+1=Nc y.1∧Si 0 (Si 0 (Si 0 (Si (J7 l).1 (Si (J7 l).2.1 (K08 x l h=y.2.1∧K02 x l h=y.2.2.1∧Kct x l h=y.2.2.2∧Kox l)))))))∧Kda y l h x) (Iw (Nc x.1+1)∧∃(y:Nat×Int×Int×Int),Si h (Si (Z32 l) (Nc x.1+1=Nc y.1∧Si 0 (Si 0 (Si 0 (Si (J7 l).1 (Si (J7 l).2.1 (x.2.1=y.2.1∧x.2.2.1=y.2.2.1∧x.2.2.2=y.2.2.2∧Kox l)))))))∧Kda y l h x)) ((x.2.1,E2 x.2.2)=Jl9 l h∧0=Jha l h)))=_).mp ?_
 delta Z32 Z80 Z83 Jt0 Knl Kni Kng Knf Kgv Jem K59 K57 K55 K53 K51 K5v K5r K5q Jzz K3b K25 Jzy K1b Ko4 K08 K02 Kox Keo Kem Keb Kd3 Kdq Kda Kcu Kct Br Iw Bd Tw Si Ln Nc Gt B0 E2
 intro hl
 refine⟨⟨hl,by decide⟩,by decide,fun e=> ?_,fun e=> ?_⟩
 ·have e:Jha l h≠0:=bne_iff_ne.1 e
  exact⟨by unfold Jl9;rw[if_neg e],rfl⟩
 ·have e0:Jha l h=0:=bne_eq_false_iff_eq.1 e
  clear e
  have hr:=Jcd (l:=l)
  have nO:=hr.nO
  have hst:h<(J7 l).2.1:=by
   have:=(J7n e0).2.2
   by_cases q:(J7 l).2.1≤h
   ·rw[decide_eq_true q] at this;cases this
   ·omega
  refine⟨((0:Nat),0,0,0),by simp,⟨e0,Nat.zero_le _,by omega,by omega,by omega,by unfold Jl9;rw[if_pos e0];rfl⟩,fun(x:Nat×H3) hk=>⟨fun h1=> ?_,fun h1=> ?_⟩⟩
  ·obtain⟨k,a,b,c⟩:=x
   have hlt:k<(J7 l).2.2.2.1.length:=by simpa using h1
   obtain⟨_,k1,k2,k3,k4,k5⟩:=hk
   generalize J7 l=r at*
   obtain⟨tk,st,S,O,M,X,Q⟩:=r
   have hlt:k<O.length:=hlt
   have hst:h<st:=hst
   have nO:O.length≤32:=nO
   have hx:=Je (d:=Jo) hlt
   have k5:Jok M h (O.drop k) (a,b,c)=Jl9 l h:=k5
   rw[Jq (d:=Jo) hlt,Jok] at k5
   have hz:((({data:={toList:=[]}}:ByteArray),({data:={toList:=[]}}:ByteArray),({data:={toList:=[]}}:ByteArray),((0:Int),(0:Int)),(0:Int),(0:Int),(0:Int)):Ord)=Jo:=rfl
   have hzm:((({data:={toList:=[]}}:ByteArray),(0:Int),(0:Int),(0:Int)):Met)=Jib:=rfl
   simp only[hz,hzm,Prod.eta]
   have hO:Jc2 S (O.getD k Jo):=hr.ord _ hx
   have hd:∀h,Jr (O.getD k Jo) h=true→h<st→0≤K6 M (O.getD k Jo).1 h:=hr.done _ hx
   generalize O.getD k Jo=y at*
   unfold Kh8 at k5
   have bp:=hO.pow
   have bc:=hO.pri
   have em:M.getD (K6 M y.1 h).toNat Jib=Jak M y.1 h:=rfl
   simp only[em]
   refine⟨by omega,fun hq=> ?_,fun hq=> ?_⟩
   ·rw[hq,cond_true] at k5
    have hm:=hd _ hq hst
    have hl:=Jbe (l:=M) (s:=y.1) (h:=h)
    have hM:Jtn (Jak M y.1 h):=hr.met _ (Je (show _<M.length by omega))
    have m1:=hM.sent
    have m2:=hM.got
    have q1:0≤(Jak M y.1 h).2.2.2*y.2.2.2.2.2.1:=Int.mul_nonneg m2.1 bc.1
    have q2:(Jak M y.1 h).2.2.2*y.2.2.2.2.2.1≤1000*1000:=Int.mul_le_mul (by omega) bc.2 bc.1 (by decide)
    exact⟨⟨hr,by omega,by omega⟩,by omega,by omega,by omega,by omega,(k+1,a+(Jak M y.1 h).2.2.1,b+(Jak M y.1 h).2.2.2,c+((Jak M y.1 h).2.2.2*y.2.2.2.2.2.1-3*(y.2.2.2.2.1-(Jak M y.1 h).2.2.2))),by simp,⟨e0,by(first|omega|dsimp only;omega),by(first|omega|dsimp only;omega),by(first|omega|dsimp only;omega),by(first|omega|dsimp only;omega),k5⟩,by(first|omega|dsimp only;omega)⟩
   ·rw[hq,cond_false] at k5
    exact⟨by omega,(k+1,a,b,c),by simp,⟨e0,by(first|omega|dsimp only;omega),by(first|omega|dsimp only;omega),by(first|omega|dsimp only;omega),by(first|omega|dsimp only;omega),k5⟩,by(first|omega|dsimp only;omega)⟩
  ·obtain⟨k,a,b,c⟩:=x
   have hlt:¬k<(J7 l).2.2.2.1.length:=by simpa using h1
   obtain⟨_,k1,k2,k3,k4,k5⟩:=hk
   have:k=(J7 l).2.2.2.1.length:=by omega
   rw[this,List.drop_length,Jok] at k5
   exact⟨k5,e0.symm⟩
abbrev Ual:=Uam.add Ucu
def cAb (pre:Reg→Ev→List Prop) (f:Reg→Ev→ByteArray→Bool):Con:={args:=[Jb3,aEv,aS],ress:=[Bo],owns:=[],pre:=fun(r,e,_)=>pre r e,spec:=fun(r,e,s,_)=>(f r e s,())}
def Kjz:Con:=cAb (fun _ _=>[]) (fun _ _ _=>true)
theorem Kw8:Ok Tryz.prog 150 Kjz:=okW Ual Tryz.f150 na fun xx=>by
 obtain⟨⟨(tk:Int),(st:Int),(S:List Sta),(O:List Ord),(M:List Met),(X:List Out),(Q:List Per)⟩,⟨(n:Int),(k:ByteArray),(ns:List ByteArray),(vs:List Int),(tx:ByteArray)⟩,(s:ByteArray),_⟩:=xx
 refine(by kernel_rfl:(true=true)=_).mp ?_
 rfl
abbrev Uak:=Ual.add Kw8
def abO (O:List Ord) (ns:List ByteArray) (s:ByteArray):Bool:=F3 (Xj O (ns.getD 0 Jb)) s
def Udn:Con:={args:=[Jb3,aEv,aS],ress:=[Bo],owns:=[],pre:=fun(r,e,_)=>[Jn r,1≤e.2.2.1.length,0≤K0 r.2.2.2.1 (e.2.2.1.getD 0 Jb)],spec:=fun((tk,st,S,O,M,X,Q),(n,k,ns,vs,tx),s,_)=>(abO O ns s,())}
theorem Kw2:Ok Tryz.prog 156 Udn:=okW Uak Tryz.f156 na fun xx=>by
 obtain⟨⟨(tk:Int),(st:Int),(S:List Sta),(O:List Ord),(M:List Met),(X:List Out),(Q:List Per)⟩,⟨(n:Int),(k:ByteArray),(ns:List ByteArray),(vs:List Int),(tx:ByteArray)⟩,(s:ByteArray),_⟩:=xx
 refine(by kernel_rfl:(Ju tk st S O M X Q→Xd ns→Jtx O ns→Kqw ns O∧F3 (J4h O ns) s=abO O ns s)=_).mp ?_
 delta Z64 Z72 Yd Uz Da Xd Ju J97 Jrg Kgu Kgr J94 Jtx Kqw J4h Bd T2 Ln B0 E2
 intro hr h1 h2
 have nO:O.length≤32:=hr.nO
 repeat' first|assumption|exact rfl|trivial|omega|exact K8|exact Ut|exact Us|exact U4|apply And.intro|intro _
abbrev Uaj:=Uak.add Kw2
def abX (X:List Out) (ns:List ByteArray) (s:ByteArray):Bool:=(Df X (ns.getD 0 Jb)).2.1.toList==s.toList
def Udl:Con:={args:=[Jb3,aEv,aS],ress:=[Bo],owns:=[],pre:=fun(r,e,_)=>[Jn r,1≤e.2.2.1.length,0≤Kc r.2.2.2.2.2.1 (e.2.2.1.getD 0 Jb)],spec:=fun((tk,st,S,O,M,X,Q),(n,k,ns,vs,tx),s,_)=>(abX X ns s,())}
theorem Kwv:Ok Tryz.prog 163 Udl:=okW Uaj Tryz.f163 na fun xx=>by
 obtain⟨⟨(tk:Int),(st:Int),(S:List Sta),(O:List Ord),(M:List Met),(X:List Out),(Q:List Per)⟩,⟨(n:Int),(k:ByteArray),(ns:List ByteArray),(vs:List Int),(tx:ByteArray)⟩,(s:ByteArray),_⟩:=xx
 refine(by kernel_rfl:(Ju tk st S O M X Q→Xd ns→J29 X ns→Kqx ns X∧Lb (Kg4 X ns).2.1 s=abX X ns s)=_).mp ?_
 delta Z55 Z72 Yd Uz Da Xd Ju Kg4 Jtz J29 Kqx Bd T2 Ln B0 Lb
 intro hr h1 h2
 have nX:X.length≤16:=hr.nX
 repeat' first|assumption|exact rfl|trivial|omega|exact K8|exact Ut|exact Us|exact U4|apply And.intro|intro _
abbrev Uai:=Uaj.add Kwv
def abP (X:List Out) (Q:List Per) (ns:List ByteArray) (s:ByteArray):Bool:=(Df X (Jm9 Q (ns.getD 0 Jb)).2.1).2.1.toList==s.toList
def Udm:Con:={args:=[Jb3,aEv,aS],ress:=[Bo],owns:=[],pre:=fun(r,e,_)=>[Jn r,1≤e.2.2.1.length,0≤U5 r.2.2.2.2.2.2 (e.2.2.1.getD 0 Jb)],spec:=fun((tk,st,S,O,M,X,Q),(n,k,ns,vs,tx),s,_)=>(abP X Q ns s,())}
theorem J1c {Q:List Per} {s:ByteArray} (h:0≤U5 Q s):Jm9 Q s∈Q:=by
 have:=U4 (l:=Q) (s:=s)
 exact Je (by omega)
theorem Kwq:Ok Tryz.prog 168 Udm:=okW Uai Tryz.f168 na fun xx=>by
 obtain⟨⟨(tk:Int),(st:Int),(S:List Sta),(O:List Ord),(M:List Met),(X:List Out),(Q:List Per)⟩,⟨(n:Int),(k:ByteArray),(ns:List ByteArray),(vs:List Int),(tx:ByteArray)⟩,(s:ByteArray),_⟩:=xx
 refine(by kernel_rfl:(Ju tk st S O M X Q→Xd ns→J27 Q ns→T2 (Yd ns) (Z54 Q∧0≤Jtc Q ns∧Z55 X∧0≤Kc X (Jm9 Q (Uz ns)).2.1)∧Lb (Df X (Jm9 Q (Uz ns)).2.1).2.1 s=abP X Q ns s)=_).mp ?_
 delta Z54 Z55 Z72 Yd Uz Da Xd Ju Jtc J27 Bd T2 Ln B0 Lb
 intro hr h1 h2
 have nX:X.length≤16:=hr.nX
 have nQ:Q.length≤16:=hr.nQ
 have h3:0≤Kc X (Jm9 Q (ns.getD 0 Jb)).2.1:=hr.per _ (J1c h2)
 repeat' first|assumption|exact rfl|trivial|omega|exact K8|exact Ut|exact Us|exact U4|apply And.intro|intro _
abbrev Jrl:=Uai.add Kwq
def abS (r:Reg) (e:Ev) (s:ByteArray):Bool:=match(Jh e.2.1).2.2.2.2 with
 |some 150=>true
 |some 156=>abO r.2.2.2.1 e.2.2.1 s
 |some 163=>abX r.2.2.2.2.2.1 e.2.2.1 s
 |some 168=>abP r.2.2.2.2.2.1 r.2.2.2.2.2.2 e.2.2.1 s
 |_=>false
structure Jhn (r:Reg) (e:Ev):Prop where
 kind:Uo e.2.1=true
 ord:(Jh e.2.1).2.2.2.2=some 156→1≤e.2.2.1.length∧0≤K0 r.2.2.2.1 (e.2.2.1.getD 0 Jb)
 out:(Jh e.2.1).2.2.2.2=some 163→1≤e.2.2.1.length∧0≤Kc r.2.2.2.2.2.1 (e.2.2.1.getD 0 Jb)
 per:(Jh e.2.1).2.2.2.2=some 168→1≤e.2.2.1.length∧0≤U5 r.2.2.2.2.2.2 (e.2.2.1.getD 0 Jb)
def Xs:Con:={args:=[aEv, .ref 105 Jkq, .ref 9 .str],ress:=[Bo],owns:=[],pre:=fun(e,r,_)=>[Jn r,Jhn r e],spec:=fun(e,r,s,_)=>(abS r e s,())}
def Z41:=false=true→False
theorem Jt8 (n:Int) (ns:List ByteArray) (vs:List Int) (tx:ByteArray) (tk st:Int) (S:List Sta) (O:List Ord) (M:List Met) (X:List Out) (Q:List Per) (s:ByteArray):wpF Tryz.prog Jrl.g (na ()) Tryz.f79 Xs ((n,J1,ns,vs,tx),(tk,st,S,O,M,X,Q),s,()):=by
 refine(by kernel_rfl:(Ju tk st S O M X Q→Jhn (Z72 tk st S O M X Q) (Z4 n ns vs tx)→Z41∧false=abS (Z72 tk st S O M X Q) (Z4 n ns vs tx) s)=_).mp ?_
 delta Z4 Z41 Z72 Ju J1
 intro hr ha
 have e:abS (tk,st,S,O,M,X,Q) (n,J1,ns,vs,tx) s=false:=by unfold abS;rw[show(Jh J1).2.2.2.2=_ from congrArg (fun x=>x.2.2.2.2) Jci];all_goals rfl
 rw[e]
 repeat' first|exact hr|exact h.1|exact h.2|exact rfl|apply And.intro|intro _
 all_goals first|trivial|assumption|contradiction
theorem Jku (n:Int) (ns:List ByteArray) (vs:List Int) (tx:ByteArray) (tk st:Int) (S:List Sta) (O:List Ord) (M:List Met) (X:List Out) (Q:List Per) (s:ByteArray):wpF Tryz.prog Jrl.g (na ()) Tryz.f79 Xs ((n,Jy,ns,vs,tx),(tk,st,S,O,M,X,Q),s,()):=by
 refine(by kernel_rfl:(Ju tk st S O M X Q→Jhn (Z72 tk st S O M X Q) (Z37 n ns vs tx)→true=abS (Z72 tk st S O M X Q) (Z37 n ns vs tx) s)=_).mp ?_
 delta Z37 Z72 Ju Jy
 intro hr ha
 have e:abS (tk,st,S,O,M,X,Q) (n,Jy,ns,vs,tx) s=true:=by unfold abS;rw[show(Jh Jy).2.2.2.2=_ from congrArg (fun x=>x.2.2.2.2) Ui];all_goals rfl
 rw[e]
 repeat' first|exact hr|exact h.1|exact h.2|exact rfl|apply And.intro|intro _
 all_goals first|trivial|assumption|contradiction
theorem Jrn (n:Int) (ns:List ByteArray) (vs:List Int) (tx:ByteArray) (tk st:Int) (S:List Sta) (O:List Ord) (M:List Met) (X:List Out) (Q:List Per) (s:ByteArray):wpF Tryz.prog Jrl.g (na ()) Tryz.f79 Xs ((n,Ue,ns,vs,tx),(tk,st,S,O,M,X,Q),s,()):=by
 refine(by kernel_rfl:(Ju tk st S O M X Q→Jhn (Z72 tk st S O M X Q) (Z16 n ns vs tx)→true=abS (Z72 tk st S O M X Q) (Z16 n ns vs tx) s)=_).mp ?_
 delta Z16 Z72 Ju Ue
 intro hr ha
 have e:abS (tk,st,S,O,M,X,Q) (n,Ue,ns,vs,tx) s=true:=by unfold abS;rw[show(Jh Ue).2.2.2.2=_ from congrArg (fun x=>x.2.2.2.2) Vj];all_goals rfl
 rw[e]
 repeat' first|exact hr|exact h.1|exact h.2|exact rfl|apply And.intro|intro _
 all_goals first|trivial|assumption|contradiction
def Jz5 (a:Ls):=true=true→Xd a
def Ke3 (a b:Int) (c:List Sta) (d:List Ord) (e:List Met) (f:List Out) (g:List Per) (h:Ls):=(true=true→Ju a b c d e f g)∧Jz5 h∧(true=true→Jtx d h)
theorem Jro (n:Int) (ns:List ByteArray) (vs:List Int) (tx:ByteArray) (tk st:Int) (S:List Sta) (O:List Ord) (M:List Met) (X:List Out) (Q:List Per) (s:ByteArray):wpF Tryz.prog Jrl.g (na ()) Tryz.f79 Xs ((n,Ku,ns,vs,tx),(tk,st,S,O,M,X,Q),s,()):=by
 refine(by kernel_rfl:(Ju tk st S O M X Q→Jhn (Z72 tk st S O M X Q) (Z15 n ns vs tx)→Ke3 tk st S O M X Q ns∧(bif true then abO O ns s else false)=abS (Z72 tk st S O M X Q) (Z15 n ns vs tx) s)=_).mp ?_
 delta Z15 Z72 Da Xd Ju Jz5 Jtx Ke3 Ku
 intro hr ha
 have e:abS (tk,st,S,O,M,X,Q) (n,Ku,ns,vs,tx) s=abO O ns s:=by unfold abS;rw[show(Jh Ku).2.2.2.2=_ from congrArg (fun x=>x.2.2.2.2) U1];all_goals rfl
 have h:=ha.ord (congrArg (fun x=>x.2.2.2.2) U1)
 rw[e]
 repeat' first|exact hr|exact h.1|exact h.2|exact rfl|apply And.intro|intro _
 all_goals first|trivial|assumption|contradiction
theorem Jrp (n:Int) (ns:List ByteArray) (vs:List Int) (tx:ByteArray) (tk st:Int) (S:List Sta) (O:List Ord) (M:List Met) (X:List Out) (Q:List Per) (s:ByteArray):wpF Tryz.prog Jrl.g (na ()) Tryz.f79 Xs ((n,Uc,ns,vs,tx),(tk,st,S,O,M,X,Q),s,()):=by
 refine(by kernel_rfl:(Ju tk st S O M X Q→Jhn (Z72 tk st S O M X Q) (Z13 n ns vs tx)→Ke3 tk st S O M X Q ns∧(bif true then abO O ns s else false)=abS (Z72 tk st S O M X Q) (Z13 n ns vs tx) s)=_).mp ?_
 delta Z13 Z72 Da Xd Ju Jz5 Jtx Ke3 Uc
 intro hr ha
 have e:abS (tk,st,S,O,M,X,Q) (n,Uc,ns,vs,tx) s=abO O ns s:=by unfold abS;rw[show(Jh Uc).2.2.2.2=_ from congrArg (fun x=>x.2.2.2.2) U2];all_goals rfl
 have h:=ha.ord (congrArg (fun x=>x.2.2.2.2) U2)
 rw[e]
 repeat' first|exact hr|exact h.1|exact h.2|exact rfl|apply And.intro|intro _
 all_goals first|trivial|assumption|contradiction
theorem Jt9 (n:Int) (ns:List ByteArray) (vs:List Int) (tx:ByteArray) (tk st:Int) (S:List Sta) (O:List Ord) (M:List Met) (X:List Out) (Q:List Per) (s:ByteArray):wpF Tryz.prog Jrl.g (na ()) Tryz.f79 Xs ((n,Vq,ns,vs,tx),(tk,st,S,O,M,X,Q),s,()):=by
 refine(by kernel_rfl:(Ju tk st S O M X Q→Jhn (Z72 tk st S O M X Q) (Z7 n ns vs tx)→Ke3 tk st S O M X Q ns∧(bif true then abO O ns s else false)=abS (Z72 tk st S O M X Q) (Z7 n ns vs tx) s)=_).mp ?_
 delta Z7 Z72 Da Xd Ju Jz5 Jtx Ke3 Vq
 intro hr ha
 have e:abS (tk,st,S,O,M,X,Q) (n,Vq,ns,vs,tx) s=abO O ns s:=by unfold abS;rw[show(Jh Vq).2.2.2.2=_ from congrArg (fun x=>x.2.2.2.2) Vw];all_goals rfl
 have h:=ha.ord (congrArg (fun x=>x.2.2.2.2) Vw)
 rw[e]
 repeat' first|exact hr|exact h.1|exact h.2|exact rfl|apply And.intro|intro _
 all_goals first|trivial|assumption|contradiction
def Ko6 (a b:Int) (c:List Sta) (d:List Ord) (e:List Met) (f:List Out) (g:List Per) (h:Ls):=(true=true→Ju a b c d e f g)∧Jz5 h∧(true=true→J29 f h)
theorem Jnf (n:Int) (ns:List ByteArray) (vs:List Int) (tx:ByteArray) (tk st:Int) (S:List Sta) (O:List Ord) (M:List Met) (X:List Out) (Q:List Per) (s:ByteArray):wpF Tryz.prog Jrl.g (na ()) Tryz.f79 Xs ((n,Jz,ns,vs,tx),(tk,st,S,O,M,X,Q),s,()):=by
 refine(by kernel_rfl:(Ju tk st S O M X Q→Jhn (Z72 tk st S O M X Q) (Z21 n ns vs tx)→Ko6 tk st S O M X Q ns∧(bif true then abX X ns s else false)=abS (Z72 tk st S O M X Q) (Z21 n ns vs tx) s)=_).mp ?_
 delta Z21 Z72 Da Xd Ju Jz5 J29 Ko6 Jz
 intro hr ha
 have e:abS (tk,st,S,O,M,X,Q) (n,Jz,ns,vs,tx) s=abX X ns s:=by unfold abS;rw[show(Jh Jz).2.2.2.2=_ from congrArg (fun x=>x.2.2.2.2) K7];all_goals rfl
 have h:=ha.out (congrArg (fun x=>x.2.2.2.2) K7)
 rw[e]
 repeat' first|exact hr|exact h.1|exact h.2|exact rfl|apply And.intro|intro _
 all_goals first|trivial|assumption|contradiction
theorem Jkv (n:Int) (ns:List ByteArray) (vs:List Int) (tx:ByteArray) (tk st:Int) (S:List Sta) (O:List Ord) (M:List Met) (X:List Out) (Q:List Per) (s:ByteArray):wpF Tryz.prog Jrl.g (na ()) Tryz.f79 Xs ((n,Jv,ns,vs,tx),(tk,st,S,O,M,X,Q),s,()):=by
 refine(by kernel_rfl:(Ju tk st S O M X Q→Jhn (Z72 tk st S O M X Q) (Z33 n ns vs tx)→Ko6 tk st S O M X Q ns∧(bif true then abX X ns s else false)=abS (Z72 tk st S O M X Q) (Z33 n ns vs tx) s)=_).mp ?_
 delta Z33 Z72 Da Xd Ju Jz5 J29 Ko6 Jv
 intro hr ha
 have e:abS (tk,st,S,O,M,X,Q) (n,Jv,ns,vs,tx) s=abX X ns s:=by unfold abS;rw[show(Jh Jv).2.2.2.2=_ from congrArg (fun x=>x.2.2.2.2) Kt];all_goals rfl
 have h:=ha.out (congrArg (fun x=>x.2.2.2.2) Kt)
 rw[e]
 repeat' first|exact hr|exact h.1|exact h.2|exact rfl|apply And.intro|intro _
 all_goals first|trivial|assumption|contradiction
def Ko7 (a b:Int) (c:List Sta) (d:List Ord) (e:List Met) (f:List Out) (g:List Per) (h:Ls):=(true=true→Ju a b c d e f g)∧Jz5 h∧(true=true→J27 g h)
theorem Jne (n:Int) (ns:List ByteArray) (vs:List Int) (tx:ByteArray) (tk st:Int) (S:List Sta) (O:List Ord) (M:List Met) (X:List Out) (Q:List Per) (s:ByteArray):wpF Tryz.prog Jrl.g (na ()) Tryz.f79 Xs ((n,Kh,ns,vs,tx),(tk,st,S,O,M,X,Q),s,()):=by
 refine(by kernel_rfl:(Ju tk st S O M X Q→Jhn (Z72 tk st S O M X Q) (Z25 n ns vs tx)→Ko7 tk st S O M X Q ns∧(bif true then abP X Q ns s else false)=abS (Z72 tk st S O M X Q) (Z25 n ns vs tx) s)=_).mp ?_
 delta Z25 Z72 Da Xd Ju Jz5 J27 Ko7 Kh
 intro hr ha
 have e:abS (tk,st,S,O,M,X,Q) (n,Kh,ns,vs,tx) s=abP X Q ns s:=by unfold abS;rw[show(Jh Kh).2.2.2.2=_ from congrArg (fun x=>x.2.2.2.2) Ug];all_goals rfl
 have h:=ha.per (congrArg (fun x=>x.2.2.2.2) Ug)
 rw[e]
 repeat' first|exact hr|exact h.1|exact h.2|exact rfl|apply And.intro|intro _
 all_goals first|trivial|assumption|contradiction
theorem Jnd (n:Int) (ns:List ByteArray) (vs:List Int) (tx:ByteArray) (tk st:Int) (S:List Sta) (O:List Ord) (M:List Met) (X:List Out) (Q:List Per) (s:ByteArray):wpF Tryz.prog Jrl.g (na ()) Tryz.f79 Xs ((n,Kg,ns,vs,tx),(tk,st,S,O,M,X,Q),s,()):=by
 refine(by kernel_rfl:(Ju tk st S O M X Q→Jhn (Z72 tk st S O M X Q) (Z18 n ns vs tx)→Ko7 tk st S O M X Q ns∧(bif true then abP X Q ns s else false)=abS (Z72 tk st S O M X Q) (Z18 n ns vs tx) s)=_).mp ?_
 delta Z18 Z72 Da Xd Ju Jz5 J27 Ko7 Kg
 intro hr ha
 have e:abS (tk,st,S,O,M,X,Q) (n,Kg,ns,vs,tx) s=abP X Q ns s:=by unfold abS;rw[show(Jh Kg).2.2.2.2=_ from congrArg (fun x=>x.2.2.2.2) Uf];all_goals rfl
 have h:=ha.per (congrArg (fun x=>x.2.2.2.2) Uf)
 rw[e]
 repeat' first|exact hr|exact h.1|exact h.2|exact rfl|apply And.intro|intro _
 all_goals first|trivial|assumption|contradiction
theorem Jnc (n:Int) (ns:List ByteArray) (vs:List Int) (tx:ByteArray) (tk st:Int) (S:List Sta) (O:List Ord) (M:List Met) (X:List Out) (Q:List Per) (s:ByteArray):wpF Tryz.prog Jrl.g (na ()) Tryz.f79 Xs ((n,Ji,ns,vs,tx),(tk,st,S,O,M,X,Q),s,()):=by
 refine(by kernel_rfl:(Ju tk st S O M X Q→Jhn (Z72 tk st S O M X Q) (Z19 n ns vs tx)→Z41∧false=abS (Z72 tk st S O M X Q) (Z19 n ns vs tx) s)=_).mp ?_
 delta Z19 Z41 Z72 Ju Ji
 intro hr ha
 have e:abS (tk,st,S,O,M,X,Q) (n,Ji,ns,vs,tx) s=false:=by unfold abS;rw[show(Jh Ji).2.2.2.2=_ from congrArg (fun x=>x.2.2.2.2) Uw];all_goals rfl
 rw[e]
 repeat' first|exact hr|exact h.1|exact h.2|exact rfl|apply And.intro|intro _
 all_goals first|trivial|assumption|contradiction
theorem J6k [Sx.Dr] {Γ:Gam} {ann:Nat→Option Ann} {fn:Func} {c:Con} {x:ATup c.args} (hb:fn.body.isSome=true) (h:Up (c.pre x)→wpF Tryz.prog Γ ann fn c x):wpF Tryz.prog Γ ann fn c x:=by
 unfold wpF at h⊢
 cases hc:fn.body with
 |none=>rw[hc] at hb;cases hb
 |some code=>
  rw[hc] at h
  exact Jbk h
theorem Ubb:∀x:ATup [aEv, .ref 105 Jkq, .ref 9 .str],wpF Tryz.prog Jrl.g (na ()) Tryz.f79 Xs x
 |((n,k,ns,vs,tx),(tk,st,S,O,M,X,Q),s,())=>by
  refine J6k (by kernel_rfl) fun hp=> ?_
  have ha:Jhn (tk,st,S,O,M,X,Q) (n,k,ns,vs,tx):=hp.2
  rcases Vl ha.kind with h|h|h|h|h|h|h|h|h|h|h<;>dsimp only at h<;>subst h
  ·exact Jt8 n ns vs tx tk st S O M X Q s
  ·exact Jku n ns vs tx tk st S O M X Q s
  ·exact Jrn n ns vs tx tk st S O M X Q s
  ·exact Jro n ns vs tx tk st S O M X Q s
  ·exact Jrp n ns vs tx tk st S O M X Q s
  ·exact Jt9 n ns vs tx tk st S O M X Q s
  ·exact Jnf n ns vs tx tk st S O M X Q s
  ·exact Jkv n ns vs tx tk st S O M X Q s
  ·exact Jne n ns vs tx tk st S O M X Q s
  ·exact Jnd n ns vs tx tk st S O M X Q s
  ·exact Jnc n ns vs tx tk st S O M X Q s
theorem Ubx:Ok Tryz.prog 79 Xs:=Vy mixed Jrl.ok (by kernel_rfl) (by kernel_rfl) na fun xx=>Ubb xx
abbrev Uen:=Jrl.add Ubx
theorem Jbl {α:Type} {p:α→Bool} {y:α} (h:p y=true):∀{l:List α} {k:Nat},0≤Vt p (l++[y]) k
 |[],k=>by
  show 0≤Vt p [y] k
  unfold Vt;rw[if_pos h];omega
 |x::l,k=>by
  show 0≤Vt p (x::(l++[y])) k
  unfold Vt
  split
  ·omega
  ·exact Jbl h
structure Knv (r r':Reg):Prop where
 o:∀s,0≤K0 r.2.2.2.1 s→0≤K0 r'.2.2.2.1 s
 x:∀s,0≤Kc r.2.2.2.2.2.1 s→0≤Kc r'.2.2.2.2.2.1 s
 q:∀s,0≤U5 r.2.2.2.2.2.2 s→0≤U5 r'.2.2.2.2.2.2 s
theorem Jws {O:List Ord} {y:Ord} {s:ByteArray} (h:0≤K0 O s):0≤K0 (O++[y]) s:=by unfold K0 at h⊢;rw[Yt h];exact h
theorem Jwq {O:List Out} {y:Out} {s:ByteArray} (h:0≤Kc O s):0≤Kc (O++[y]) s:=by unfold Kc at h⊢;rw[Yt h];exact h
theorem Jwr {O:List Per} {y:Per} {s:ByteArray} (h:0≤U5 O s):0≤U5 (O++[y]) s:=by unfold U5 at h⊢;rw[Yt h];exact h
theorem Jcp {O:List Ord} {a s:ByteArray} {v:Int}:K0 (Jad O a v) s=K0 O s:=by
 unfold K0 Jad
 exact D7 fun x hx=>by
  have e:Xj O a=x:=Jfu hx
  rw[e]
theorem Jj9 {O:List Out} {a s:ByteArray} {v:Int}:Kc (Jex O a v) s=Kc O s:=by
 unfold Kc Jex
 exact D7 fun x hx=>by
  have e:Df O a=x:=Jfu hx
  rw[e]
theorem Jco {O:List Per} {a s:ByteArray}:U5 (Jae O a) s=U5 O s:=by
 unfold U5 Jae
 exact D7 fun x hx=>by
  have e:Jm9 O a=x:=Jfu hx
  rw[e]
theorem Jr0 (r:Reg) (e:Ev):Knv r (Jw r e):=by
 obtain⟨tk,st,S,O,M,X,Q⟩:=r
 obtain⟨n,k,ns,vs,tx⟩:=e
 unfold Jw doS
 split
 all_goals refine⟨fun s h=> ?_,fun s h=> ?_,fun s h=> ?_⟩
 all_goals first|exact h|(show 0≤K0 (Jad _ _ _) _;rw[Jcp];exact h)|(show 0≤Kc (Jex _ _ _) _;rw[Jj9];exact h)|(show 0≤U5 (Jae _ _) _;rw[Jco];exact h)|exact Jws h|exact Jwq h|exact Jwr h|exact Jcp (O:=O)▸h|exact Jj9 (O:=X)▸h|exact Jco (O:=Q)▸h
theorem Jhn.mono {r r':Reg} {e:Ev} (h:Jhn r e) (hn:Knv r r'):Jhn r' e:=
 ⟨h.kind,fun q=>⟨(h.ord q).1,hn.o _ (h.ord q).2⟩,fun q=>⟨(h.out q).1,hn.x _ (h.out q).2⟩,fun q=>⟨(h.per q).1,hn.q _ (h.per q).2⟩⟩
theorem Zw (s:ByteArray):(s.toList==s.toList)=true:=beq_self_eq_true _
theorem J6q {h:J9} {e:Ev} (hc:Jd e=0) (ha:L9 h e=0) (hk:(e.2.1.toList==J1.toList)=false):Jhn (Jw (Ko h.2.2) e) e:=by
 obtain⟨n,k,ns,vs,tx⟩:=e
 have hE:=K1 hc
 rw[Xa hk] at ha
 obtain⟨z1,z2,z3,z4,z5⟩:=Jb1 ha
 generalize Ko h.2.2=r at*
 obtain⟨tk,st,S,O,M,X,Q⟩:=r
 have hn:=hE.nn
 clear ha z4 z5
 have hkd:=Vl hE.kind
 dsimp only at hn hkd hk z3
 rcases hkd with h|h|h|h|h|h|h|h|h|h|h<;>subst h
 ·exact⟨hE.kind,fun q=>absurd q (by rw[Jci];decide),fun q=>absurd q (by rw[Jci];decide),fun q=>absurd q (by rw[Jci];decide)⟩
 ·exact⟨hE.kind,fun q=>absurd q (by rw[Ui];decide),fun q=>absurd q (by rw[Ui];decide),fun q=>absurd q (by rw[Ui];decide)⟩
 ·exact⟨hE.kind,fun q=>absurd q (by rw[Vj];decide),fun q=>absurd q (by rw[Vj];decide),fun q=>absurd q (by rw[Vj];decide)⟩
 ·simp only[U1,List.length_cons,List.length_nil] at hn z3
  refine⟨hE.kind,fun _=>⟨by dsimp only;omega, ?_⟩,fun q=>absurd q (by rw[U1];decide),fun q=>absurd q (by rw[U1];decide)⟩
  unfold Jw doS
  simp only[U1]
  exact Jbl (p:=fun x:Ord=>x.1.toList==(ns.getD 0 Jb).toList) (l:=O) (Zw _)
 ·simp only[U2,List.length_cons,List.length_nil] at hn z3
  refine⟨hE.kind,fun _=>⟨by dsimp only;omega, ?_⟩,fun q=>absurd q (by rw[U2];decide),fun q=>absurd q (by rw[U2];decide)⟩
  unfold Jw doS
  simp only[U2]
  exact J48 ((Jm z3).1 rfl)
 ·simp only[Vw,List.length_cons,List.length_nil] at hn z3
  refine⟨hE.kind,fun _=>⟨by dsimp only;omega, ?_⟩,fun q=>absurd q (by rw[Vw];decide),fun q=>absurd q (by rw[Vw];decide)⟩
  unfold Jw doS
  simp only[Vw]
  exact by show 0≤K0 (Jad _ _ _) _;rw[Jcp];exact J48 ((Jm z3).1 rfl)
 ·simp only[K7,List.length_cons,List.length_nil] at hn z3
  refine⟨hE.kind,fun q=>absurd q (by rw[K7];decide),fun _=>⟨by dsimp only;omega, ?_⟩,fun q=>absurd q (by rw[K7];decide)⟩
  unfold Jw doS
  simp only[K7]
  exact Jbl (p:=fun x:Out=>x.1.toList==(ns.getD 0 Jb).toList) (l:=X) (Zw _)
 ·simp only[Kt,List.length_cons,List.length_nil] at hn z3
  refine⟨hE.kind,fun q=>absurd q (by rw[Kt];decide),fun _=>⟨by dsimp only;omega, ?_⟩,fun q=>absurd q (by rw[Kt];decide)⟩
  unfold Jw doS
  simp only[Kt]
  exact by show 0≤Kc (Jex _ _ _) _;rw[Jj9];exact J47 ((Jm z3).1 rfl)
 ·simp only[Ug,List.length_cons,List.length_nil] at hn z3
  refine⟨hE.kind,fun q=>absurd q (by rw[Ug];decide),fun q=>absurd q (by rw[Ug];decide),fun _=>⟨by dsimp only;omega, ?_⟩⟩
  unfold Jw doS
  simp only[Ug]
  exact Jbl (p:=fun x:Per=>x.1.toList==(ns.getD 0 Jb).toList) (l:=Q) (Zw _)
 ·simp only[Uf,List.length_cons,List.length_nil] at hn z3
  refine⟨hE.kind,fun q=>absurd q (by rw[Uf];decide),fun q=>absurd q (by rw[Uf];decide),fun _=>⟨by dsimp only;omega, ?_⟩⟩
  unfold Jw doS
  simp only[Uf]
  exact by show 0≤U5 (Jae _ _) _;rw[Jco];exact Kn4 ((Jm z3).1 rfl)
 ·exact⟨hE.kind,fun q=>absurd q (by rw[Uw];decide),fun q=>absurd q (by rw[Uw];decide),fun q=>absurd q (by rw[Uw];decide)⟩
def Jm6 (h:J9):Prop:=∀j k,j<h.2.1.length→j≤k→k<h.2.2.length→Jhn (h.2.2.getD k Xg) (h.2.1.getD j ev0)
theorem Jmc {α:Type} {l:List α} {m k:Nat} {d:α} (h:k<m):(l.take m).getD k d=l.getD k d:=by
 rw[List.getD_eq_getElem?_getD,List.getD_eq_getElem?_getD,List.getElem?_take_of_lt h]
theorem Jj5 {α:Type} {l m:List α} {k:Nat} {d:α} (h:k<l.length):(l++m).getD k d=l.getD k d:=by
 rw[List.getD_eq_getElem?_getD,List.getD_eq_getElem?_getD,List.getElem?_append_left h]
theorem Jmd {α:Type} {l:List α} {y d:α}:(l++[y]).getD l.length d=y:=by
 rw[List.getD_eq_getElem?_getD,List.getElem?_append_right (Nat.le_refl _),Nat.sub_self];rfl
theorem Kzy {h:J9} {e:Ev} (hi:Vs h) (hA:Jm6 h) (ha:K3 h e=0):Jm6 (Ho h e):=by
 obtain⟨hc,hacc⟩:=add_zero ha
 have n3:=hi.ok.nG
 have hlast:∀e'∈[e],(e.2.1.toList==J1.toList)=false→Jhn (Jw (Ko h.2.2) e) e:=fun _ _ hk=>J6q hc hacc hk
 obtain⟨E,C,G⟩:=h
 dsimp only at n3
 cases hk:e.2.1.toList==J1.toList with
 |true=>
  unfold Ho
  rw[hk,cond_true]
  intro j k h1 h2 h3
  simp only[List.length_take] at h1 h3
  dsimp only
  rw[Jmc (by omega),Jmc (by omega)]
  exact hA j k (by dsimp only;omega) h2 (by dsimp only;omega)
 | false =>
  unfold Ho
  rw[hk,cond_false]
  intro j k h1 h2 h3
  simp only[List.length_append,List.length_singleton] at h1 h3
  dsimp only
  by_cases hkn:k<G.length
  ·rw[Jj5 hkn,Jj5 (by omega)]
   exact hA j k (by dsimp only;omega) h2 (by dsimp only;omega)
  ·have ek:k=G.length:=by omega
   rw[ek,Jmd]
   by_cases hj:j<C.length
   ·rw[Jj5 hj]
    have:=hA j (G.length-1) hj (by omega) (by dsimp only;omega)
    exact this.mono (Jr0 (Ko G) e)
   ·have ej:j=C.length:=by omega
    rw[ej,Jmd]
    exact hlast e (List.mem_singleton.2 rfl) hk
theorem J4w:∀{l:List Ev} {h:J9},Vs h→Jm6 h→h.1.length+l.length≤1000→Jm6 (Zm h l).1
 |[],_,_,hA,_=>hA
 | e :: l, h, hi, hA, hl => by
  unfold Zm
  simp only[List.length_cons] at hl
  by_cases ha:K3 h e=0
  ·rw[if_pos ha]
   exact J4w (Jb0 hi (by omega) ha) (Kzy hi hA ha) (by rw[Xy];omega)
  ·rw[if_neg ha];exact hA
theorem Jwg:Jm6 Y7:=fun j k h1 _ _=>by cases h1
theorem J08 {l:List Ev}:Jm6 (Ja l).1:=by
 unfold Ja
 by_cases h:1000<l.length
 ·rw[if_pos h];exact Jwg
 ·rw[if_neg h];exact J4w Xx Jwg (by show 0+l.length≤1000;omega)
theorem Kh3 {h:J9} (hi:Vs h) (hA:Jm6 h) {e:Ev} (he:e∈h.2.1):Jhn (Ko h.2.2) e:=by
 obtain⟨j,hj,rfl⟩:=List.mem_iff_getElem.1 he
 have n3:=hi.ok.nG
 have:=hA j (h.2.2.length-1) hj (by omega) (by omega)
 rw[List.getD_eq_getElem?_getD (l:=h.2.1),List.getElem?_eq_getElem hj] at this
 exact this
def Uj (xs:List ByteArray) (sep:ByteArray):ByteArray:=⟨(Lib.join (xs.map (·.data.toList)) sep.data.toList).toArray⟩
def Kza:Con:={args:=[.val false (.list 9 .str),aS],ress:=[tS],owns:=[],pre:=fun(xs,sep,_)=>[xs.length≤1000000,(Lib.join (xs.map (·.data.toList)) sep.data.toList).length≤140737488355328],spec:=fun(xs,sep,_)=>(Uj xs sep,())}
def Ux (n:Int):ByteArray:=⟨(Lib.itoa n).toArray⟩
def Kzb:Con:={args:=[aI],ress:=[tS],owns:=[],pre:=fun(n,_)=>[-9223372036854775808≤n∧n≤9223372036854775807],spec:=fun(n,_)=>(Ux n,())}
theorem J2m (w:World) (q:Nat) (os:Array Obj):RowKit.Below w.heap.size w (Sort.grow (w.drewN q) os):=
 ⟨rfl,rfl,rfl,by first|(simp[Sort.grow];done)|(simp[Sort.grow];omega),fun i hi=>by
  show((w.drewN q).heap++os)[i]? =_
  rw[Array.getElem?_append_left (by show i<w.heap.size;omega)]
  rfl⟩
theorem Kxx:Ok Tryz.prog 122 Kzb:=by
 refine⟨⟨Tryz.f122,by kernel_rfl,by kernel_rfl,by kernel_rfl⟩,fun z hz=>(by cases hz),fun F hF=>(by cases hF),fun _ x M R w vs hM hg hpre hargs=> ?_⟩
 obtain⟨n,u⟩:=x
 obtain⟨v,vs',rfl,ha,hr⟩:=hargs
 have hr:vs'=[]:=hr
 subst hr
 obtain⟨cs,rfl,hc⟩:=ha
 have hc:cs=[.int .i64 n]:=hc
 subst hc
 have hpre: -9223372036854775808≤n∧n≤9223372036854775807:=hpre
 refine(Tryz.strconv_Itoa n hpre.1 hpre.2 w (hg w (Sx.Below.refl _ _)).1).mono ?_
 rintro e w' ⟨rfl,k,os,rfl⟩
 exact⟨M,[.string (Ux n)],rfl, .ofK (J2m w k os),fun _ h=>h,fun b h=> .inl h,_,[],rfl,⟨_,rfl,rfl⟩,rfl⟩
theorem Kxw:Ok Tryz.prog 123 Kza:=by
 refine⟨⟨Tryz.f123,by kernel_rfl,by kernel_rfl,by kernel_rfl⟩,fun z hz=>(by cases hz),fun F hF=>(by cases hF),fun _ x M R w vs hM hg hpre hargs=> ?_⟩
 obtain⟨xs,sep,u⟩:=x
 obtain⟨v,vs',rfl,ha,v2,vs2,rfl,hb,hr⟩:=hargs
 have hr:vs2=[]:=hr
 subst hr
 obtain⟨cs,rfl,hc⟩:=ha
 obtain⟨cs2,rfl,hc2⟩:=hb
 have hc2:cs2=[.string sep]:=hc2
 subst hc2
 obtain⟨v,flat,rfl,f1,f2⟩:=hc
 obtain⟨p1,p2⟩:=hpre
 have hflat:=Je2 f1
 have fin:∀(e:Ending) (w':World),e= .returned (.string (Uj xs sep))→RowKit.Below w.heap.size w w'→Jph M w [tS] [] (Uj xs sep,()) e w':=fun e w' he hb=>
  ⟨M,[.string (Uj xs sep)],he, .ofK hb,fun _ h=>h,fun b h=> .inl h,_,[],rfl,⟨_,rfl,rfl⟩,rfl⟩
 rcases f2 with⟨rfl|⟨ad,cap,rfl⟩,h0⟩|⟨b,off,cap,rfl,hcap,hk,hm⟩
 ·have:xs=[]:=List.eq_nil_of_length_eq_zero h0
  subst this
  refine(Tryz.strings_Join_none none 0 sep w).mono ?_
  rintro e w' ⟨rfl,rfl⟩
  exact fin _ _ rfl (RowKit.Below.refl _ _)
 ·have:xs=[]:=List.eq_nil_of_length_eq_zero h0
  subst this
  refine(Tryz.strings_Join_none (some ad) cap sep w).mono ?_
  rintro e w' ⟨rfl,rfl⟩
  exact fin _ _ rfl (RowKit.Below.refl _ _)
 ·cases hx:xs with
  |nil=>
   subst hx
   refine(Tryz.strings_Join_none (some ⟨b,off,none⟩) cap sep w).mono ?_
   rintro e w' ⟨rfl,rfl⟩
   exact fin _ _ rfl (RowKit.Below.refl _ _)
  |cons x0 r=>
   rw[←hx]
   have hne:flat≠[]:=by rw[hflat,hx];simp
   refine(Tryz.strings_Join b off cap xs sep w (fun j x hj=>hk j _ (by rw[hflat,List.getElem?_map,hj];rfl)) (hM b (.inl (hm hne))) (by omega) hcap p2).mono ?_
   rintro e w' ⟨rfl,hb⟩
   exact fin _ _ rfl hb
abbrev Uem:=Uen.add Kxw
abbrev Uel:=Uem.add Kxx
def Za (s p:ByteArray):List ByteArray:=Lib.splitB p 0 (Lib.countB s p) s
def Jqt:Con:={args:=[aS,aS],ress:=[(false, .list 9 .str)],owns:=[true],pre:=fun(s,p,_)=>[s.size≤1000000,1≤p.size],spec:=fun(s,p,_)=>(Za s p,())}
theorem Jh3 {M:Nat→Prop} {w:World}:∀{xs:List ByteArray},Y2 (Rep M w .str) xs (xs.map Value.string)
 |[]=>rfl
 |x::xs=>⟨[.string x],xs.map Value.string,rfl,rfl,Jh3⟩
theorem Uca:Ok Tryz.prog 61 Jqt:=by
 refine⟨⟨Tryz.f61,by kernel_rfl,by kernel_rfl,by kernel_rfl⟩,fun z hz=>(by cases hz),fun F hF=>(by cases hF),fun _ x M R w vs hM hg hpre hargs=> ?_⟩
 obtain⟨s,p,u⟩:=x
 obtain⟨v1,vs1,rfl,ha1,v2,vs2,rfl,ha2,hr⟩:=hargs
 have hr:vs2=[]:=hr
 subst hr
 obtain⟨cs1,rfl,hc1⟩:=ha1
 obtain⟨cs2,rfl,hc2⟩:=ha2
 have hc1:cs1=[.string s]:=hc1
 have hc2:cs2=[.string p]:=hc2
 subst hc1;subst hc2
 have hpre:s.size≤1000000∧1≤p.size:=hpre
 refine(Tryz.strings_Split_shaped s p w ((hg w (.refl _ _)).2 rfl).1 (by omega) hpre.2).mono ?_
 rintro e w' ⟨rfl,rfl⟩
 have hlen:(Za s p).length=Lib.countB s p+1:=Lib.splitB_all p hpre.2 0 _ s rfl
 have hle:=Lib.countB_le p hpre.2 s.size s (Nat.le_refl _)
 refine⟨M,[_],rfl, .ofK ⟨rfl,rfl,rfl,by show w.heap.size≤(w.heap.push _).size;simp,fun i hi=> ?_⟩,fun _ h=>h,fun b h=> .inl h,_,[],rfl,⟨(Za s p).map Value.string,Jh3,⟨by simp[Sch.size,Jqt], .inr ⟨w.heap.size,Lib.countB s p+1,_,by rw[show(Jqt.spec (s,p,u)).1=Za s p from rfl,hlen],Nat.le_refl _,heap_alloc_new w _,by rw[show(Jqt.spec (s,p,u)).1=Za s p from rfl,hlen];exact Nat.le_refl _, ?_, ?_, ?_⟩⟩, ?_⟩,rfl⟩
 ·show(w.heap.push _)[i]? =_
  rw[Array.getElem?_push]
  split
  ·omega
  ·rfl
 ·show _≤9223372036854775807
  have:s.size≤1000000:=hpre.1
  omega
 ·show(List.map Value.string (Za s p)).toArray.size=_
  simp[Sch.size,hlen]
 ·show(List.map Value.string (Za s p)).take ((Za s p).length*1)=_
  rw[List.take_of_length_le (by simp)]
 ·intro g hgb hM'
  have:w.heap.size=g:=Option.some.inj hgb
  have:=hM g (.inl hM')
  omega
abbrev Uek:=Uel.add Uca
def Kzk:Con:={args:=[],ress:=[],owns:=[],pre:=fun _=>[False],spec:=fun _=>(),prim:=some Kzp}
theorem J7w (s:ByteArray) (w:World) (hs:s.size≤1000000) (hg:Sx.Good Tryz.prog w):Calls Tryz.prog 260 #[.string s] w fun e w'=>∃u,e= .returned (.tuple #[.int .i64 (Jtr s),u])∧Jkp (Jxw s) u∧Sx.Below w.heap.size w w':=by
 have hw:=(hg w (.refl _ _)).2 rfl
 cases h:Lib.atoiAll s.data.toList
 ·rename_i v
  have e1:Jtr s=v:=by unfold Jtr;rw[h]
  have e2:Jxw s=false:=by unfold Jxw;rw[h]
  rw[e1,e2]
  refine Calls.mono (Any.strconv_Atoi_ok Tryz.laysAtoi s (by omega) v h w) ?_
  rintro e w' ⟨rfl,rfl|⟨t,rfl⟩⟩
  ·exact⟨_,rfl,rfl, .refl _ _⟩
  ·exact⟨_,rfl,rfl, .ofK (Lib.bytesWorld_below w _ t)⟩
 ·have e1:Jtr s=0:=by unfold Jtr;rw[h]
  have e2:Jxw s=true:=by unfold Jxw;rw[h]
  rw[e1,e2]
  obtain⟨tp,pe,hv⟩:=hw.2.1
  refine Calls.mono (Any.strconv_Atoi_syntax_var Tryz.laysAtoi s (by omega) h tp pe w hv) ?_
  rintro e w' ⟨N,rfl,_,_,hb⟩
  exact⟨_,rfl,⟨_,_,rfl⟩, .ofK hb⟩
 ·have e1:Jtr s=Lib.atoiSat s.data.toList:=by unfold Jtr;rw[h]
  have e2:Jxw s=true:=by unfold Jxw;rw[h]
  rw[e1,e2]
  obtain⟨tp,pe,hv⟩:=hw.2.2
  refine Calls.mono (Any.strconv_Atoi_range_var Tryz.laysAtoi s (by omega) h tp pe w hv) ?_
  rintro e w' ⟨N,rfl,_,_,hb⟩
  exact⟨_,rfl,⟨_,_,rfl⟩, .ofK hb⟩
theorem Ku4:Ok Tryz.prog 260 Kzk:=⟨⟨Tryz.f260,by kernel_rfl,by kernel_rfl,by kernel_rfl⟩,fun z hz=>(by cases hz),fun F hF=>(by cases hF;exact J8t fun s w hs hg=>J7w s w hs hg),fun _ x M R w vs _ _ hpre _=>False.elim hpre⟩
abbrev Uej:=Uek.add Ku4
def Jzt (s p:ByteArray):ByteArray×ByteArray×Bool:=(⟨(Lib.cut s.data.toList p.data.toList).1.toArray⟩,⟨(Lib.cut s.data.toList p.data.toList).2.1.toArray⟩,(Lib.cut s.data.toList p.data.toList).2.2)
def Udg:Con:={args:=[aS,aS],ress:=[tS,tS,Bo],owns:=[],pre:=fun(s,_)=>[s.size≤1000000],spec:=fun(s,p,_)=>((Jzt s p).1,(Jzt s p).2.1,(Jzt s p).2.2,())}
theorem J2n (w:World) (q:Nat):RowKit.Below w.heap.size w (w.drewN q):=⟨rfl,rfl,rfl,Nat.le_refl _,fun i _=>rfl⟩
theorem Kya:Ok Tryz.prog 107 Udg:=by
 refine⟨⟨Tryz.f107,by kernel_rfl,by kernel_rfl,by kernel_rfl⟩,fun z hz=>(by cases hz),fun F hF=>(by cases hF),fun _ x M R w vs hM hg hpre hargs=> ?_⟩
 obtain⟨s,p,u⟩:=x
 obtain⟨v1,vs1,rfl,ha1,v2,vs2,rfl,ha2,hr⟩:=hargs
 have hr:vs2=[]:=hr
 subst hr
 obtain⟨cs1,rfl,hc1⟩:=ha1
 obtain⟨cs2,rfl,hc2⟩:=ha2
 have hc1:cs1=[.string s]:=hc1
 have hc2:cs2=[.string p]:=hc2
 subst hc1;subst hc2
 have hpre:s.size≤1000000:=hpre
 refine(Tryz.strings_Cut_shaped s p w ((hg w (.refl _ _)).2 rfl).1 (by omega)).mono ?_
 rintro e w' ⟨rfl,n,rfl⟩
 exact⟨M,[.string (Jzt s p).1, .string (Jzt s p).2.1, .bool (Jzt s p).2.2],rfl, .ofK (J2n w n),fun _ h=>h,fun b h=> .inl h,_,_,rfl,⟨_,rfl,rfl⟩,_,_,rfl,⟨_,rfl,rfl⟩,_,[],rfl,⟨_,rfl,rfl⟩,rfl⟩
abbrev Uei:=Uej.add Kya
def Khq (s:ByteArray) (n:Int):ByteArray:=⟨(Lib.repeatL s.data.toList n.toNat).toArray⟩
def Uc2:Con:={args:=[aS,aI],ress:=[tS],owns:=[],pre:=fun(s,n,_)=>[s.size≤1000000,0≤n∧n≤1000000],spec:=fun(s,n,_)=>(Khq s n,())}
theorem Ku5:Ok Tryz.prog 258 Uc2:=by
 refine⟨⟨Tryz.f258,by kernel_rfl,by kernel_rfl,by kernel_rfl⟩,fun z hz=>(by cases hz),fun F hF=>(by cases hF),fun _ x M R w vs hM hg hpre hargs=> ?_⟩
 obtain⟨s,n,u⟩:=x
 obtain⟨v1,vs1,rfl,ha1,v2,vs2,rfl,ha2,hr⟩:=hargs
 have hr:vs2=[]:=hr
 subst hr
 obtain⟨cs1,rfl,hc1⟩:=ha1
 obtain⟨cs2,rfl,hc2⟩:=ha2
 have hc1:cs1=[.string s]:=hc1
 have hc2:cs2=[.int .i64 n]:=hc2
 subst hc1;subst hc2
 obtain⟨p1,p2,p3⟩:=hpre
 have p1:s.size≤1000000:=p1
 have p2:0≤n:=p2
 have p3:n≤1000000:=p3
 obtain⟨c,rfl⟩:=Int.eq_ofNat_of_zero_le p2
 have p3:(c:Int)≤1000000:=p3
 have hm:s.size*c≤1000000*1000000:=Nat.mul_le_mul p1 (by omega)
 refine(Tryz.strings_Repeat s c w (by omega) (by omega)).mono ?_
 rintro e w' ⟨rfl,hb⟩
 exact⟨M,[.string (Khq s c)],rfl, .ofK hb,fun _ h=>h,fun b h=> .inl h,_,[],rfl,⟨_,rfl,rfl⟩,rfl⟩
abbrev Uah:=Uei.add Ku5
abbrev tI:Bool×Sch:=(false, .int .i64)
abbrev tB:Bool×Sch:=(false, .bool)
abbrev Ube:Bool×Sch:=(false, .str)
abbrev tSs:Bool×Sch:=(false, .list 9 .str)
abbrev taI:AK:= .val false (.int .i64)
abbrev taU:AK:= .val false (.int .u8)
abbrev taS:AK:= .val false .str
theorem J0o {n:Int} (h0:0≤n) (h1:n<256):IntKind.u8.wrap n=n:=by
 simp[IntKind.wrap,IntKind.signed,IntKind.bits]
 omega
def Yh (c:Int):Bool:=decide (48≤c)&&decide (c≤57)
theorem Jbj (c:Int):(bif decide (c<48) then true else decide (57<c))= !Yh c:=by
 unfold Yh
 have e1:decide (c<48)= !decide ((48:Int)≤c):=by rw[Bool.eq_iff_iff];simp
 have e2:decide ((57:Int)<c)= !decide (c≤57):=by rw[Bool.eq_iff_iff];simp
 rw[e1,e2]
 cases decide ((48:Int)≤c)<;>cases decide (c≤57)<;>rfl
def J3:List UInt8→Int→Int×Bool
 |[],n=>(n,true)
 |c::r,n=>if Yh c.toNat=true then J3 r (10*n+(c.toNat-48)) else(0,false)
def L5 (s:ByteArray):Bool:=decide (s.size=0)||decide (9<s.size)||(decide (1<s.size)&&decide (Jbu s 0=48))
def Jl (s:ByteArray):Int×Bool:=if L5 s=true then(0,false) else J3 s.data.toList 0
def Jxk:Con:={args:=[taS],ress:=[tI,tB],owns:=[],pre:=fun(s,_)=>[s.size≤1000000],spec:=fun(s,_)=>((Jl s).1,(Jl s).2,())}
abbrev Kka (s:ByteArray):Ann:={X:=Int×Int,σ:=fun p=>⟨0,[(0, .one (.str s)),(4, .one (.int .i64 p.1)),(5, .one (.int .i64 p.2))],[]⟩,inv:=fun p=>L5 s=false∧s.size≤9∧0≤p.2∧p.2≤s.size∧0≤p.1∧p.1<10^p.2.toNat∧J3 (s.data.toList.drop p.2.toNat) p.1=J3 s.data.toList 0,mu:=fun p=>s.size-p.2.toNat}
theorem Jmn {l:List UInt8} {i:Nat} (h:i<l.length) (n:Int):J3 (l.drop i) n=if Yh (l.getD i 0).toNat=true then J3 (l.drop (i+1)) (10*n+((l.getD i 0).toNat-48)) else(0,false):=by
 rw[List.drop_eq_getElem_cons h]
 simp[J3,List.getD_eq_getElem?_getD,h]
theorem Jms (s:ByteArray):(bif bif ((s.size:Int)==0) then true else decide (9<(s.size:Int)) then true else bif decide (1<(s.size:Int)) then(((s.data.toList.getD 0 0).toNat:Int)==48) else false)=L5 s:=by
 have e1:((s.size:Int)==0)=decide (s.size=0):=by rw[Bool.eq_iff_iff];simp
 have e2:decide (9<(s.size:Int))=decide (9<s.size):=by rw[decide_eq_decide];omega
 have e3:decide (1<(s.size:Int))=decide (1<s.size):=by rw[decide_eq_decide];omega
 have e4:(((s.data.toList.getD 0 0).toNat:Int)==48)=decide (Jbu s 0=48):=by rw[Bool.eq_iff_iff];simp[Jbu]
 have k:∀a b c d:Bool,(bif bif a then true else b then true else bif c then d else false)=(a||b||(c&&d)):=by decide
 rw[e1,e2,e3,e4,k];rfl
theorem Jcr {c:Nat} (h:Yh c=true):48≤c∧c≤57:=by
 unfold Yh at h
 simp only[Bool.and_eq_true,decide_eq_true_eq] at h
 omega
def Km9 (a:Bt):=0=(Jl a).1∧false=(Jl a).2
def Ktb (a:Bt) (b:Int×Int):=Nc (UInt8.toNat (Gt (Z11 a) b.2 0))
def K69 (a:Bt):=bif Nc (ByteArray.size a)==0 then true else decide (9<Nc (ByteArray.size a))
def K62 (a:Bt) (b:Int×Int):=decide (Ktb a b<48)
def K6y (a:Bt) (b:Int×Int):=IntKind.wrap IntKind.u8 (Ktb a b-48)
def K5x (a:Int×Int) (b:Bt):=10*a.1+K6y b a
def Kqe (a:Bt):=bif decide (1<Nc (ByteArray.size a)) then Kmx a==48 else false
def J4e (a:Bt) (b:Int×Int):=L5 a=false∧ByteArray.size a≤9∧0≤b.2∧b.2≤Nc (ByteArray.size a)∧0≤b.1∧b.1<10^Int.toNat b.2∧J3 (List.drop (Int.toNat b.2) (Z11 a)) b.1=J3 (Z11 a) 0
theorem Kwa:Ok Tryz.prog 189 Jxk:=okW Uah Tryz.f189 (fun xx=>Y4 (Kka xx.1)) fun xx=>by
 obtain⟨(s:ByteArray),_⟩:=xx
 refine(by kernel_rfl:(ByteArray.size s≤1000000→(K69 s=false∧decide (1<Nc (ByteArray.size s))=true→Bd 0 (Nc (ByteArray.size s)))∧Br (bif K69 s then true else Kqe s) (Km9 s) (∃(x:Int×Int),Sf s (0=x.1∧0=x.2)∧J4e s x∧∀(x:Int×Int),J4e s x→Br (decide (x.2<Nc (ByteArray.size s))) ((Bd x.2 (Nc (ByteArray.size s))∧(K62 s x=false→Bd x.2 (Nc (ByteArray.size s))))∧Br (bif K62 s x then true else decide (57<Ktb s x)) (Km9 s) ((Iw (10*x.1)∧Bd x.2 (Nc (ByteArray.size s))∧Iw (K6y s x)∧Iw (K5x x s))∧Iw (x.2+1)∧∃(y:Int×Int),Sf s (K5x x s=y.1∧x.2+1=y.2)∧J4e s y∧ByteArray.size s-Int.toNat y.2<ByteArray.size s-Int.toNat x.2)) (x.1=(Jl s).1∧true=(Jl s).2)))=_).mp ?_
 delta Z11 Km9 Ktb Kmx K69 K62 K6y K5x Kqe J4e Br Iw Bd Sf Nc Gt
 intro hs
 rw[Jms]
 simp only[Jbj]
 refine⟨fun h=>⟨by omega,by have h:=h.2;simp at h;omega⟩,fun h=> ?_,fun h=> ?_⟩
 ·unfold Jl;rw[if_pos h];exact⟨rfl,rfl⟩
 ·have ed:Jl s=J3 s.data.toList 0:=by unfold Jl;rw[h];rfl
  have h9:s.size≤9:=by
   unfold L5 at h
   simp only[Bool.or_eq_false_iff,decide_eq_false_iff_not] at h
   omega
  refine⟨(0,0),by simp,⟨h,h9,Int.le_refl _,by omega,Int.le_refl _,by decide,rfl⟩, ?_⟩
  rintro⟨n,i⟩ ⟨_,_,hi0,hi1,hn0,hn1,hd⟩
  dsimp only at hi0 hi1 hn0 hn1 hd⊢
  obtain⟨j,rfl⟩:=Int.eq_ofNat_of_zero_le hi0
  have hl:s.data.toList.length=s.size:=by simp
  simp only[Int.ofNat_eq_natCast,Int.toNat_natCast] at*
  refine⟨fun hlt=> ?_,fun hlt=> ?_⟩
  ·have hlt:j<s.size:=by simpa using hlt
   have hdr:=Jmn (l:=s.data.toList) (i:=j) (by omega) n
   refine⟨⟨by omega,fun _=>by omega⟩,fun hb=> ?_,fun hb=> ?_⟩
   ·have hb:Yh (s.data.toList.getD j 0).toNat=false:=by simpa using hb
    rw[ed,←hd,hdr,hb];exact⟨rfl,rfl⟩
   ·have hb:Yh (s.data.toList.getD j 0).toNat=true:=by simpa using hb
    have hr:=Jcr hb
    have hp:n<10^9:=Int.lt_of_lt_of_le hn1 (by
     have:=Nat.pow_le_pow_right (n:=10) (by decide) (show j≤9 by omega)
     have e:((10:Int)^j)=((10^j:Nat):Int):=by simp
     rw[e];exact_mod_cast this)
    have hw:IntKind.u8.wrap (((s.data.toList.getD j 0).toNat:Int)-48)=(s.data.toList.getD j 0).toNat-48:=J0o (by omega) (by omega)
    rw[hw]
    refine⟨by omega,by omega,(10*n+(((s.data.toList.getD j 0).toNat:Int)-48),((j+1:Nat):Int)),(by simp),⟨h,h9,by dsimp only;omega,by dsimp only;omega,by dsimp only;omega, ?_, ?_⟩,by simp;omega⟩
    ·simp only[Int.toNat_natCast,Int.pow_succ];omega
    ·simp only[Int.toNat_natCast]
     rw[←hd,hdr,if_pos hb]
  ·have hj:j=s.size:=by
    have:¬((j:Int)<s.size):=by simpa using hlt
    omega
   have:J3 (s.data.toList.drop j) n=(n,true):=by rw[List.drop_eq_nil_of_le (by omega)];rfl
   rw[ed,←hd,this];exact⟨rfl,rfl⟩
abbrev Uag:=Uah.add Kwa
theorem Jat:∀{l:List UInt8} {n:Int},0≤n→0≤(J3 l n).1∧(J3 l n).1<(n+1)*10^l.length
 |[],n,h=>⟨h,by simp[J3];omega⟩
 | c :: r, n, h => by
  unfold J3
  split
  ·rename_i hc
   have hr:=Jcr hc
   have ih:=Jat (l:=r) (n:=10*n+(c.toNat-48)) (by omega)
   refine⟨ih.1,Int.lt_of_lt_of_le ih.2 ?_⟩
   rw[List.length_cons,Int.pow_succ,Int.mul_comm (10^r.length),←Int.mul_assoc]
   exact Int.mul_le_mul_of_nonneg_right (by omega) (Int.pow_nonneg (by decide))
  ·refine⟨Int.le_refl _,Int.mul_pos (by omega) (Int.pow_pos (by decide))⟩
theorem Jor (s:ByteArray):0≤(Jl s).1∧(Jl s).1<1000000000:=by
 unfold Jl
 split
 ·exact⟨Int.le_refl _,by decide⟩
 ·rename_i h
  have h:L5 s=false:=by simpa using h
  have h9:s.size≤9:=by
   unfold L5 at h
   simp only[Bool.or_eq_false_iff,decide_eq_false_iff_not] at h
   omega
  have:=Jat (l:=s.data.toList) (n:=0) (Int.le_refl _)
  refine⟨this.1,Int.lt_of_lt_of_le this.2 ?_⟩
  have hp:=Nat.pow_le_pow_right (n:=10) (by decide) h9
  have hl:s.data.toList.length=s.size:=by simp
  rw[hl,Int.zero_add,Int.one_mul]
  have e:((10:Int)^s.size)=((10^s.size:Nat):Int):=by simp
  rw[e]
  have h2:((10^s.size:Nat):Int)≤((10^9:Nat):Int):=Int.ofNat_le.2 hp
  have h3:((10^9:Nat):Int)=1000000000:=by decide
  omega
def Jax (c:UInt8):List UInt8→List (List UInt8)
 |[]=>[[]]
 |x::r=>if x=c then[]::Jax c r else match Jax c r with
  |[]=>[[x]]
  |h::t=>(x::h)::t
def bs (l:List UInt8):ByteArray:=⟨l.toArray⟩
def Jj (s:ByteArray) (c:Int):List ByteArray:=(Jax (UInt8.ofNat c.toNat) s.data.toList).map bs
def Jwl (o:List ByteArray):List (List UInt8)→List ByteArray
 |[]=>o
 |h::t=>o.dropLast++bs ((o.getLastD ByteArray.empty).data.toList++h)::t.map bs
theorem Jac (c:UInt8):∀l,Jax c l≠[]
 |[]=>by simp[Jax]
 |x::r=>by
  unfold Jax
  split
  ·simp
  ·split<;>simp
theorem Zt (c x:UInt8) (r:List UInt8):Jax c (x::r)=if x=c then[]::Jax c r else match Jax c r with
  |[]=>[[x]]
  |h::t=>(x::h)::t:=rfl
theorem J1w (d:List ByteArray) (a:ByteArray) (t:List (List UInt8)) (ht:t≠[]):Jwl (d++[a]++[bs []]) t=Jwl (d++[a]) ([]::t):=by
 cases t with
 |nil=>exact absurd rfl ht
 |cons h t=>
  simp only[Jwl,List.dropLast_concat,List.getLastD_concat]
  simp[bs]
theorem Jwk (d:List ByteArray) (a:ByteArray) (x:UInt8) (h:List UInt8) (t:List (List UInt8)):Jwl (d++[bs (a.data.toList++[x])]) (h::t)=Jwl (d++[a]) ((x::h)::t):=by
 simp only[Jwl,List.dropLast_concat,List.getLastD_concat]
 simp[bs]
theorem J1x (d:List ByteArray) (a:ByteArray):Jwl (d++[a]) [[]]=d++[a]:=by
 simp only[Jwl,List.dropLast_concat,List.getLastD_concat]
 simp[bs]
theorem Joo {s:ByteArray} {j:Nat} (h:j<s.size):(s.extract j (j+1)).data.toList=[s.data.toList.getD j 0]:=by
 have hl:j<s.data.toList.length:=by simpa using h
 rw[ByteArray.data_extract,Array.toList_extract,List.extract_eq_take_drop,List.drop_eq_getElem_cons hl,List.getD_eq_getElem?_getD,List.getElem?_eq_getElem hl]
 simp
def J7y:Con:={args:=[taS,taU],ress:=[tSs],owns:=[],pre:=fun(s,c,_)=>[s.size≤1000000,0≤c,c<256],spec:=fun(s,c,_)=>(Jj s c,())}
abbrev Jx1 (s:ByteArray) (c:Int):Ann:={X:=List ByteArray×Int,σ:=fun p=>⟨1,[(0, .one (.str s)),(1, .one (.int .u8 c)),(5, .one (.sl 0)),(6, .one (.int .i64 p.2))],[(0, .own 9 .str p.1)]⟩,inv:=fun p=>p.1≠[]∧p.1.length≤p.2.toNat+1∧(∀a∈p.1,a.size≤p.2.toNat)∧0≤p.2∧p.2≤s.size∧Jwl p.1 (Jax (UInt8.ofNat c.toNat) (s.data.toList.drop p.2.toNat))=Jj s c,mu:=fun p=>s.size-p.2.toNat}
def Kc2 (a:Ls×Int):=Ln a.1-1
def J4b (a:Ls×Int) (b:Bt) (c:Int):=(a.1=[]→False)∧List.length a.1≤Int.toNat a.2+1∧(∀(a_1:ByteArray),a_1∈a.1→ByteArray.size a_1≤Int.toNat a.2)∧0≤a.2∧a.2≤Nc (ByteArray.size b)∧Jwl a.1 (Jax (UInt8.ofNat (Int.toNat c)) (List.drop (Int.toNat a.2) (Z11 b)))=Jj b c
def Kdi (a:Ls×Int) (b:Bt) (c:Int) (d:Ls×Int):=J4b a b c∧ByteArray.size b-Int.toNat a.2<ByteArray.size b-Int.toNat d.2
theorem Kx4:Ok Tryz.prog 114 J7y:=okW Uag Tryz.f114 (fun xx=>Y4 (Jx1 xx.1 xx.2.1)) fun xx=>by
 obtain⟨(s:ByteArray),(c:Int),_⟩:=xx
 refine(by kernel_rfl:(ByteArray.size s≤1000000→0≤c→c<256→∃(x:List ByteArray×Int),Sf s (Si c (0=x.2∧[B0]=x.1))∧J4b x s c∧∀(x:List ByteArray×Int),J4b x s c→Br (decide (x.2<Nc (ByteArray.size s))) (Bd x.2 (Nc (ByteArray.size s))∧Br (Nc (UInt8.toNat (Gt (Z11 s) x.2 0))==c) ((List.length x.1+1)*16≤140737488355328∧Iw (x.2+1)∧∃(y:List ByteArray×Int),Sf s (Si c (x.2+1=y.2∧x.1++[B0]=y.1))∧Kdi y s c x) (T2 (Iw (Kc2 x)) (T2 (Bd (Kc2 x) (Ln x.1)) (Iw (x.2+1)∧(0≤x.2∧x.2≤x.2+1∧x.2+1≤Nc (ByteArray.size s))∧Nc (ByteArray.size (Gt x.1 (Kc2 x) B0)+ByteArray.size (ByteArray.extract s (Int.toNat x.2) (Int.toNat (x.2+1))))≤9223372036854775807∧Tw (Bd (Kc2 x) (Ln x.1))))∧Iw (x.2+1)∧∃(y:List ByteArray×Int),Sf s (Si c (x.2+1=y.2∧List.set x.1 (Int.toNat (Kc2 x)) (ByteArray.mk (Array.mk ((Gt x.1 (Kc2 x) B0).data.toList++(ByteArray.extract s (Int.toNat x.2) (Int.toNat (x.2+1))).data.toList)))=y.1))∧Kdi y s c x)) (x.1=Jj s c))=_).mp ?_
 delta Z11 Kc2 J4b Kdi Br Iw Bd T2 Tw Sf Si Ln Nc Gt B0
 intro hs hc0 hc1
 have hl:s.data.toList.length=s.size:=by simp
 refine⟨([bs []],0),⟨rfl,rfl,rfl,rfl⟩,⟨by simp,by simp,fun a ha=>(by rw[show a=bs [] by simpa using ha];exact Nat.le_refl _),Int.le_refl _,by omega, ?_⟩, ?_⟩
 ·have:=Jac (UInt8.ofNat c.toNat) s.data.toList
  unfold Jj
  cases h:Jax (UInt8.ofNat c.toNat) s.data.toList with
  |nil=>exact absurd h this
  |cons x r=>simp only[Int.toNat_zero,List.drop_zero,h];simp[Jwl,bs]
 ·rintro⟨o,i⟩ ⟨ho,hlen,hsz,hi0,hi1,hg⟩
  dsimp only at ho hlen hsz hi0 hi1 hg⊢
  obtain⟨j,rfl⟩:=Int.eq_ofNat_of_zero_le hi0
  obtain⟨d,a,rfl⟩:∃d a,o=d++[a]:=by
   rcases List.eq_nil_or_concat o with h|⟨d,a,h⟩
   ·exact absurd h ho
   ·exact⟨d,a,by simpa using h⟩
  refine⟨fun hlt=> ?_,fun hlt=> ?_⟩
  ·have hlt:j<s.size:=by simpa using hlt
   have hd:s.data.toList.drop j=s.data.toList.getD j 0::s.data.toList.drop (j+1):=by
    rw[List.drop_eq_getElem_cons (by omega),List.getD_eq_getElem?_getD,List.getElem?_eq_getElem (by omega)];rfl
   simp only[Int.toNat_natCast] at hlen hsz hg⊢
   rw[hd] at hg
   have hex:=Joo hlt
   generalize hx:s.data.toList.getD j 0=x at*
   have hlen2:d.length+1≤j+1:=by simpa using hlen
   have ha:a.size≤j:=hsz a (by simp)
   refine⟨by omega,fun hb=> ?_,fun hb=> ?_⟩
   ·have hb:(x.toNat:Int)=c:=by simpa using hb
    have hxc:x=UInt8.ofNat c.toNat:=by rw[←hb];simp
    rw[show Jax (UInt8.ofNat c.toNat) (x::s.data.toList.drop (j+1))=[]::Jax (UInt8.ofNat c.toNat) (s.data.toList.drop (j+1)) by rw[Zt,if_pos hxc]] at hg
    refine⟨by simp;omega,by omega,(d++[a]++[bs []],((j+1:Nat):Int)),⟨trivial,trivial,by simp,rfl⟩,⟨by simp,by simp;omega,fun b hb=> ?_,by dsimp only;omega,by dsimp only;omega, ?_⟩,by simp;omega⟩
    ·simp only[Int.toNat_natCast]
     rcases List.mem_append.1 hb with hb|hb
     ·exact Nat.le_succ_of_le (hsz b hb)
     ·have:b=bs []:=by simpa using hb
      rw[this];exact Nat.zero_le _
    ·simp only[Int.toNat_natCast]
     rw[J1w _ _ _ (Jac _ _)];exact hg
   ·have hb:¬(x.toNat:Int)=c:=by simpa using hb
    have hxc:¬x=UInt8.ofNat c.toNat:=by
     rintro rfl
     apply hb
     rw[UInt8.toNat_ofNat_of_lt' (by show c.toNat<256;omega)]
     omega
    obtain⟨h,t,ht⟩:∃h t,Jax (UInt8.ofNat c.toNat) (s.data.toList.drop (j+1))=h::t:=by
     cases h0:Jax (UInt8.ofNat c.toNat) (s.data.toList.drop (j+1)) with
     |nil=>exact absurd h0 (Jac _ _)
     |cons h t=>exact⟨h,t,rfl⟩
    rw[show Jax (UInt8.ofNat c.toNat) (x::s.data.toList.drop (j+1))=(x::h)::t by rw[Zt,if_neg hxc,ht]] at hg
    have ej:((j:Int)+1).toNat=j+1:=by omega
    have el:((((d++[a]).length:Nat):Int)-1).toNat=d.length:=by simp
    have ep:(d++[a]).getD d.length (⟨⟨[]⟩⟩:ByteArray)=a:=by simp[List.getD_eq_getElem?_getD]
    have es:∀v,(d++[a]).set d.length v=d++[v]:=fun v=>by simp
    have ex:(s.extract j (j+1)).size=1:=by rw[ByteArray.size_extract];omega
    have elen:(d++[a]).length=d.length+1:=by simp
    rw[ej,el,ep,es,hex,ex]
    refine⟨⟨by omega,by omega,by omega,by omega,by omega,by omega,by omega,by omega,by omega⟩,by omega,(d++[bs (a.data.toList++[x])],((j+1:Nat):Int)),⟨trivial,trivial,by simp,rfl⟩,⟨by simp,by simp;omega,fun b hb=> ?_,by dsimp only;omega,by dsimp only;omega, ?_⟩,by simp;omega⟩
    ·simp only[Int.toNat_natCast]
     rcases List.mem_append.1 hb with hb|hb
     ·exact Nat.le_succ_of_le (hsz b (by simp[hb]))
     ·have:b=bs (a.data.toList++[x]):=by simpa using hb
      rw[this]
      have:a.data.toList.length=a.size:=by simp
      show(a.data.toList++[x]).toArray.size≤j+1
      simp;omega
    ·simp only[Int.toNat_natCast]
     rw[ht,Jwk];exact hg
  ·have hj:j=s.size:=by
    have:¬((j:Int)<s.size):=by simpa using hlt
    omega
   simp only[Int.toNat_natCast] at hg
   rw[List.drop_eq_nil_of_le (by omega)] at hg
   rw[←hg,Jax,J1x]
abbrev Knt:=Uag.add Kx4
def Vd (n:Int):ByteArray:=⟨(Lib.itoa n).toArray⟩
def Jw9 (k:Nat):Con:={args:=[taI],ress:=[Ube],owns:=[],pre:=fun(n,_)=>[k≤18,-(10^k:Int)<n,n<10^(k+1)],spec:=fun(n,_)=>(Vd n,())}
def Kqh (a:Int):=(Iw (48+a)∧0<1)∧ByteArray.mk (Array.mk [UInt8.ofNat (Int.toNat (IntKind.wrap IntKind.u8 (48+a)))])=Vd a
def Z95 (a:Int):=0-Int.tmod a 10
def Kns:=(10:Int)=0→False
def Kmj (a:Nat):=(10:Int)^(a+(1:Nat))
def Krk (a:Nat):= -10^a
def K49 (a:Int) (b:Nat):=Int.tdiv a 10<Kmj b
def K34 (a:Nat) (b:Int):=Krk a<Int.tdiv b 10
theorem J0s {l:List UInt8} {n:Int} (h:l=Lib.itoa n):(⟨⟨l⟩⟩:ByteArray)=Vd n:=by subst h;rfl
theorem Juf (u:Nat):(Vd (u:Int)).data.toList=Lib.decDigits u:=by unfold Vd;rw[Lib.itoa_nonneg]
theorem Khk (u:Nat) (h:1≤u):(Vd (-(u:Int))).data.toList=45::Lib.decDigits u:=by unfold Vd;rw[Lib.itoa_neg u h]
theorem F9 (n:Int) (h0: -9223372036854775808≤n) (h1:n≤9223372036854775807):(Vd n).size≤21:=by
 have:=Lib.itoa_length_le n h0 h1
 show(Lib.itoa n).toArray.size≤21
 simpa using this
theorem Jou {u:Nat} (h:¬u<10):Lib.decDigits u=Lib.decDigits (u/10)++[UInt8.ofNat (48+u %10)]:=by rw[Lib.decDigits,dif_neg h]
theorem J4o {x:Nat} (h:x<10):UInt8.ofNat (IntKind.u8.wrap (48+(x:Int))).toNat=UInt8.ofNat (48+x):=by
 rw[J0o (by omega) (by omega)]
 congr 1
theorem Jlu (n:Int) (h0:¬n<0) (h1:n<10):(⟨⟨[UInt8.ofNat (IntKind.u8.wrap (48+n)).toNat]⟩⟩:ByteArray)=Vd n:=by
 obtain⟨u,rfl⟩:=Int.eq_ofNat_of_zero_le (by omega:0≤n)
 refine J0s ?_
 have e:Lib.itoa (u:Int)=Lib.decDigits u:=Lib.itoa_nonneg u
 have hu:u<10:=by omega
 rw[e,Lib.decDigits_one hu]
 exact congrArg (·::[]) (J4o hu)
theorem Khi (n:Int):wpF Tryz.prog Knt.g (na ()) Tryz.f194 (Jw9 0) (n,()):=by
 refine(by kernel_rfl:(0≤18→-10^0<n→n<10^1→Br (decide (n<0)) (Br (decide ((-10)<n)) (Jzl 3 2) (Jzl 4 2)) (Br (decide (n<10)) (Kqh n) (Jzl 7 2)))=_).mp ?_
 delta Kqh Br Iw
 intro _ h0 h1
 have e0:(10:Int)^0=1:=rfl
 have e1:(10:Int)^1=10:=rfl
 rw[e0] at h0
 rw[e1] at h1
 refine⟨fun h=>absurd (of_decide_eq_true h) (by omega),fun h=>⟨fun h2=>⟨⟨by omega,by decide⟩,Jlu n (of_decide_eq_false h) (of_decide_eq_true h2)⟩,fun h2=>absurd (of_decide_eq_false h2) (by omega)⟩⟩
theorem Khh (k:Nat) (n:Int):wpF Tryz.prog ((194,Jw9 k)::Knt.g) (na ()) Tryz.f194 (Jw9 (k+1)) (n,()):=by
 refine(by kernel_rfl:(k+1≤18→-Kmj k<n→n<10^(k+1+1)→Br (decide (n<0)) (Br (decide ((-10)<n)) ((Iw (0-n)∧k≤18∧Krk k<0-n∧0-n<Kmj k∧Nc (1+ByteArray.size (Vd (0-n)))≤9223372036854775807)∧ByteArray.mk (Array.mk (45::([]++(Vd (0-n)).data.toList)))=Vd n) ((Kns∧Iw (Int.tdiv n 10)∧k≤18∧K34 k n∧K49 n k∧Kns∧Iw (Z95 n)∧k≤18∧Krk k<Z95 n∧Z95 n<Kmj k∧Nc (ByteArray.size (Vd (Int.tdiv n 10))+ByteArray.size (Vd (Z95 n)))≤9223372036854775807)∧ByteArray.mk (Array.mk ((Vd (Int.tdiv n 10)).data.toList++(Vd (Z95 n)).data.toList))=Vd n)) (Br (decide (n<10)) (Kqh n) ((Kns∧Iw (Int.tdiv n 10)∧k≤18∧K34 k n∧K49 n k∧Kns∧Iw (48+Int.tmod n 10)∧0<1∧Nc (ByteArray.size (Vd (Int.tdiv n 10))+1)≤9223372036854775807)∧ByteArray.mk (Array.mk ((Vd (Int.tdiv n 10)).data.toList++[UInt8.ofNat (Int.toNat (IntKind.wrap IntKind.u8 (48+Int.tmod n 10)))]))=Vd n)))=_).mp ?_
 delta Z95 Kns Kmj Krk K49 K34 Kqh Br Iw Nc
 intro hk h0 h1
 have hp0:(0:Int)<10^k:=Int.pow_pos (by decide)
 have hp1:(1:Int)≤10^k:=by omega
 have hp2:(10:Int)^k≤100000000000000000:=by
  have h:=Nat.pow_le_pow_right (n:=10) (by decide) (show k≤17 by omega)
  have h2:((10^k:Nat):Int)≤((10^17:Nat):Int):=Int.ofNat_le.2 h
  have h3:((10^17:Nat):Int)=100000000000000000:=by decide
  have e:((10:Int)^k)=((10^k:Nat):Int):=by simp
  omega
 have e1:(10:Int)^(k+1)=10^k*10:=Int.pow_succ ..
 have e2:(10:Int)^(k+1+1)=10^k*10*10:=by rw[Int.pow_succ,e1]
 rw[e1] at h0
 rw[e2] at h1
 rw[e1]
 generalize(10:Int)^k=p at*
 refine⟨fun h=>⟨fun h2=> ?_,fun h2=> ?_⟩,fun h=>⟨fun h2=>⟨⟨by have:=of_decide_eq_true h2;have:=of_decide_eq_false h;omega,by decide⟩,Jlu n (of_decide_eq_false h) (of_decide_eq_true h2)⟩,fun h2=> ?_⟩⟩
 ·have h:=of_decide_eq_true h
  have h2:=of_decide_eq_true h2
  obtain⟨u,hu⟩:=Int.eq_ofNat_of_zero_le (by omega:0≤0-n)
  have hn:n= -(u:Int):=by omega
  have hs:=F9 (0-n) (by omega) (by omega)
  refine⟨⟨by omega,by omega,by omega,by omega,by omega⟩,J0s ?_⟩
  rw[hu,Juf,hn,Lib.itoa_neg u (by omega)];rfl
 ·have h:=of_decide_eq_true h
  have h2:=of_decide_eq_false h2
  obtain⟨u,hu⟩:=Int.eq_ofNat_of_zero_le (by omega:0≤0-n)
  have hn:n= -(u:Int):=by omega
  have ed:n.tdiv 10= -((u/10:Nat):Int):=by rw[hn,Int.neg_tdiv];rfl
  have em:n.tmod 10= -((u %10:Nat):Int):=by rw[hn,Int.neg_tmod];rfl
  have em2:0-n.tmod 10=((u %10:Nat):Int):=by rw[em];omega
  rw[em2,ed]
  have hs1:=F9 (-((u/10:Nat):Int)) (by omega) (by omega)
  have hs2:=F9 ((u %10:Nat):Int) (by omega) (by omega)
  refine⟨⟨by omega,by omega,by omega,by omega,by omega,by omega,by omega,by omega,by omega,by omega,by omega⟩,J0s ?_⟩
  rw[Khk _ (by omega),Juf,hn,Lib.itoa_neg u (by omega),Jou (u:=u) (by omega),Lib.decDigits_one (i:=u %10) (by omega)];rfl
 ·have h:=of_decide_eq_false h
  have h2:=of_decide_eq_false h2
  obtain⟨u,hu⟩:=Int.eq_ofNat_of_zero_le (by omega:0≤n)
  subst hu
  have ed:(u:Int).tdiv 10=((u/10:Nat):Int):=rfl
  have em:(u:Int).tmod 10=((u %10:Nat):Int):=rfl
  rw[em,ed]
  have hs1:=F9 ((u/10:Nat):Int) (by omega) (by omega)
  refine⟨⟨by omega,by omega,by omega,by omega,by omega,by omega,by omega,by decide,by omega⟩,J0s ?_⟩
  rw[Juf,Lib.itoa_nonneg,Jou (u:=u) (by omega),J4o (by omega)]
theorem J4z:∀k,Ok Tryz.prog 194 (Jw9 k)
 |0=>Vy mixed Knt.ok (by kernel_rfl) (by kernel_rfl) na fun xx=>Khi xx.1
 |k+1=>Vy mixed (.cons (J4z k) Knt.ok) (by kernel_rfl) rfl na fun xx=>Khh k xx.1
theorem Kv5:Ok Tryz.prog 194 (Jw9 17):=J4z 17
abbrev Uaf:=Knt.add Kv5
def Xl:List UInt8→Bool
 |[]=>true
 |b::r=>Yh (b.toNat:Int)&&Xl r
def Jqn (s:ByteArray):Bool:=Xl s.data.toList&&decide (0<s.size)
def Udf:Con:={args:=[aS],ress:=[Bo],owns:=[],pre:=fun(s,_)=>[s.size≤1000000],spec:=fun(s,_)=>(Jqn s,())}
abbrev Kkb (s:ByteArray):Ann:={X:=Nat,σ:=fun k=>⟨1,[(0, .one (.str s)),(6, .one (.sl 0))],[(0, .siter s k)]⟩,inv:=fun k=>k≤s.size∧Xl s.data.toList=Xl (s.data.toList.drop k),mu:=fun k=>s.size-k}
theorem Jif {c:Int} (h:128≤c):Yh c=false:=by
 unfold Yh
 rw[decide_eq_false (show ¬c≤57 by omega),Bool.and_false]
def J9m (a:Nat) (b:Bt):=a≤ByteArray.size b∧Xl (Z11 b)=Xl (List.drop a (Z11 b))
def Kpy (a:Nat) (b:Bt) (c:Nat):=J9m a b∧ByteArray.size b-a<ByteArray.size b-c
theorem Kwd:Ok Tryz.prog 186 Udf:=J1g Uaf Tryz.f186 (U6 (l:=([]:List (Nat×Func))) (by simp)) (fun xx=>Y4 (Kkb xx.1)) (fun xx=>fun _=>na ()) fun xx=>by
 obtain⟨(s:ByteArray),_⟩:=xx
 refine(by kernel_rfl:(ByteArray.size s≤1000000→∃(x:Nat),Sf s (Sf s (0=x))∧J9m x s∧∀(x:Nat),J9m x s→(x<ByteArray.size s→Br true (Br (Kr9 s x) (Sf true (false=Jqn s)) (∃(y:Nat),Sf s (Sf s (x+Jg4 s x=y))∧Kpy y s x)) (Sf true ((!Lb s B0)=Jqn s)))∧((x<ByteArray.size s→False)→Br false False (Sf true ((!Lb s B0)=Jqn s))))=_).mp ?_
 delta Z11 Kr9 J9m Kpy Br Sf B0 Lb
 intro hb
 refine⟨(0:Nat),⟨rfl,rfl,rfl⟩,⟨Nat.zero_le _,by simp⟩,fun(k:Nat) hk=>⟨fun h=>⟨fun _=>⟨fun h1=>⟨rfl, ?_⟩,fun h1=> ?_⟩,fun h=>(by cases h)⟩,fun h=> ?_⟩⟩
 ·rw[Jbj] at h1
  have h2:Yh (Yg s k)=false:=by simpa using h1
  unfold Jqn
  have h3:Xl s.data.toList=false:=by
   rw[hk.2,Fd h,Xl]
   by_cases ha:(s[k]'h).toNat<128
   ·rw[←(Jd2 h ha).1,h2];rfl
   ·rw[Jif (by omega)];rfl
  rw[h3];rfl
 ·rw[Jbj] at h1
  have h2:Yh (Yg s k)=true:=by simpa using h1
  by_cases ha:(s[k]'h).toNat<128
  ·obtain⟨r1,r2⟩:=Jd2 h ha
   refine⟨(k+1:Nat),⟨rfl,rfl,by rw[r2]⟩,⟨by omega, ?_⟩,by omega⟩
   rw[hk.2,Fd h,Xl,←r1,h2]
   rfl
  ·have:=Jli h (by omega)
   rw[Jif this] at h2
   cases h2
 ·have e:k=s.size:=Nat.le_antisymm hk.1 (Nat.le_of_not_lt h)
  refine⟨fun h=>(by cases h),fun _=>⟨rfl, ?_⟩⟩
  rw[e,List.drop_eq_nil_of_le (by simp)] at hk
  unfold Jqn
  rw[hk.2,Jjs]
  rfl
abbrev Uae:=Uaf.add Kwd
def J17 (s:ByteArray):Bool:=Xl s.data.toList&&decide (s.size=7)
def Kze:Con:={args:=[aS],ress:=[Bo],owns:=[],pre:=fun(s,_)=>[s.size≤1000000],spec:=fun(s,_)=>(J17 s,())}
abbrev J85 (s:ByteArray):Ann:={X:=Nat,σ:=fun k=>⟨0,[(0, .one (.str s)),(3, .one (.int .i64 k))],[]⟩,inv:=fun k=>k≤s.size∧Xl s.data.toList=Xl (s.data.toList.drop k),mu:=fun k=>s.size-k}
def K64 (a:Bt) (b:Nat):=decide (J9y a b<48)
theorem Kwb:Ok Tryz.prog 188 Kze:=okW Uae Tryz.f188 (fun xx=>Y4 (J85 xx.1)) fun xx=>by
 obtain⟨(s:ByteArray),_⟩:=xx
 refine(by kernel_rfl:(ByteArray.size s≤1000000→∃(x:Nat),Sf s (0=Nc x)∧J9m x s∧∀(x:Nat),J9m x s→Br (decide (Nc x<Nc (ByteArray.size s))) ((Bd (Nc x) (Nc (ByteArray.size s))∧(K64 s x=false→Bd (Nc x) (Nc (ByteArray.size s))))∧Br (bif K64 s x then true else decide (57<J9y s x)) (false=J17 s) (Z20 x∧∃(y:Nat),Sf s (Vm x y)∧Kpy y s x)) ((Nc (ByteArray.size s)==7)=J17 s))=_).mp ?_
 delta Z11 Z20 Vm J9y K64 J9m Kpy Br Iw Bd Sf Nc
 intro hb
 simp only[Jbj]
 refine⟨(0:Nat),by simp,⟨Nat.zero_le _,by simp⟩,fun(k:Nat) hk=>⟨fun h=> ?_,fun h=> ?_⟩⟩
 ·have hlt:k<s.size:=by simpa using h
  obtain⟨k1,k2⟩:=hk
  rw[Lm hlt,Xl] at k2
  refine⟨⟨by omega,fun _=>by omega⟩,fun h1=> ?_,fun h1=>⟨by omega,(k+1:Nat),by(repeat' first|exact rfl|exact⟨⟩|apply And.intro|omega|dsimp only;omega),⟨by omega, ?_⟩,by omega⟩⟩
  ·have h1:Yh ((s.data.toList.getD k 0).toNat:Int)=false:=by simpa using h1
   unfold J17
   rw[k2,h1];rfl
  ·have h1:Yh ((s.data.toList.getD k 0).toNat:Int)=true:=by simpa using h1
   rw[k2,h1];rfl
 ·have hlt:¬k<s.size:=by simpa using h
  obtain⟨k1,k2⟩:=hk
  have e:k=s.size:=by omega
  rw[e,List.drop_eq_nil_of_le (by simp)] at k2
  unfold J17
  rw[k2]
  show((s.size:Int)==7)=decide (s.size=7)
  rw[Bool.eq_iff_iff];simp;omega
abbrev Uad:=Uae.add Kwb
theorem Jxo (a:ByteArray):bs a.data.toList=a:=rfl
theorem Jeu (c:UInt8):∀l:List UInt8,Lib.splitK [c] 0 (l.count c) l=Jax c l
 |[]=>rfl
 | x :: r => by
  have ih:=Jeu c r
  by_cases h:x=c
  ·subst h
   rw[Zt,if_pos rfl,List.count_cons_self]
   have e:Lib.index (x::r) [x]=0:=by simp[Lib.index,List.isPrefixOf]
   rw[Lib.splitK,e,←ih]
   rfl
  ·rw[Zt,if_neg h,List.count_cons_of_ne h,←ih]
   have hp:[c].isPrefixOf (x::r)=false:=by
    have:¬c=x:=fun e=>h e.symm
    simp[List.isPrefixOf,this]
   cases hk:r.count c with
   |zero=>rfl
   | succ k =>
    have hi:Lib.index (x::r) [c]=if Lib.index r [c]== -1 then -1 else Lib.index r [c]+1:=by rw[Lib.index,hp];rfl
    by_cases h1:Lib.index r [c]= -1
    ·have e2:Lib.index (x::r) [c]= -1:=by rw[hi,h1];rfl
     simp only[Lib.splitK,e2,h1]
     rfl
    ·have hg:=Lib.index_ge r [c]
     have e2:Lib.index (x::r) [c]=Lib.index r [c]+1:=by rw[hi,if_neg (by simpa using h1)]
     obtain⟨i,hi⟩:=Int.eq_ofNat_of_zero_le (by omega:0≤Lib.index r [c])
     rw[hi] at e2
     have n1:¬((i:Int)== -1)=true:=by simp
     have n2:¬(((i:Int)+1)== -1)=true:=by simp;omega
     simp only[Lib.splitK,e2,hi]
     rw[if_neg n1,if_neg n2]
     have t1:((i:Int)+1).toNat=i+1:=by omega
     have t2:((i:Int)).toNat=i:=by omega
     simp only[t1,t2,Nat.add_zero,List.take_succ_cons,List.length_cons,List.length_nil]
     rfl
theorem F6 (s:ByteArray) (c:UInt8):Za s ⟨#[c]⟩=(Jax c s.data.toList).map bs:=by
 have h:=Lib.splitB_data ⟨#[c]⟩ 0 (Lib.countB s ⟨#[c]⟩) s
 have hc:Lib.countB s ⟨#[c]⟩=s.data.toList.count c:=Lib.count_one c s.data.toList
 rw[hc] at h
 have h2:(Za s ⟨#[c]⟩).map (·.data.toList)=Jax c s.data.toList:=by
  rw[←Jeu]
  unfold Za
  rw[hc];exact h
 rw[←h2,List.map_map]
 exact(List.map_id' _).symm
theorem Lu (c:UInt8):∀(l w:List UInt8),w∈Jax c l→w.length≤l.length
 |[],w,h=>by
  have:w=[]:=by simpa[Jax] using h
  rw[this];exact Nat.le_refl _
 | x :: r, w, h => by
  rw[Zt] at h
  split at h
  ·rcases List.mem_cons.1 h with h|h
   ·rw[h];exact Nat.zero_le _
   ·exact Nat.le_succ_of_le (Lu c r w h)
  ·split at h
   ·rename_i e;exact absurd e (Jac c r)
   ·rename_i hh t e
    rcases List.mem_cons.1 h with h|h
    ·rw[h]
     exact Nat.succ_le_succ (Lu c r hh (by rw[e];simp))
    ·exact Nat.le_succ_of_le (Lu c r w (by rw[e];simp[h]))
theorem Va (l:List UInt8):(bs l).size=l.length:=by show l.toArray.size=_;simp
theorem Jqk (r:ByteArray) (i:Nat):r.extract 0 i=bs (r.data.toList.take i):=by
 rw[←Jxo (r.extract 0 i),Lib.extract_data];simp
theorem Jea (r:ByteArray) (i:Nat):r.extract i r.size=bs (r.data.toList.drop i):=by
 rw[←Jxo (r.extract i r.size),Lib.extract_data,List.take_of_length_le (by simp)]
theorem szl (X:List UInt8):(⟨⟨X⟩⟩:ByteArray).size=X.length:=rfl
theorem Ja6 (c:UInt8):∀l:List UInt8,(Jax c l).length≤l.length+1
 |[]=>Nat.le_refl _
 | x :: r => by
  have ih:=Ja6 c r
  rw[Zt]
  split
  ·simp;omega
  ·split
   ·simp
   ·rename_i e;rw[e] at ih;simp at ih⊢;omega
theorem D1 (c:UInt8):∀(l:List UInt8) (n:Int),J3 (l++[c]) n=if(J3 l n).2=true∧Yh c.toNat=true then(10*(J3 l n).1+(c.toNat-48),true) else(0,false)
 |[],n=>by
  show(if Yh c.toNat=true then _ else _)=_
  by_cases h:Yh c.toNat=true
  ·rw[if_pos h,if_pos ⟨rfl,h⟩];rfl
  ·rw[if_neg h,if_neg (fun q=>h q.2)]
 |x::l,n=>by
  have ih:=D1 c l (10*n+(x.toNat-48))
  show(if Yh x.toNat=true then J3 (l++[c]) (10*n+(x.toNat-48)) else(0,false))=_
  have e:J3 (x::l) n=if Yh x.toNat=true then J3 l (10*n+(x.toNat-48)) else(0,false):=rfl
  rw[e]
  by_cases h:Yh x.toNat=true
  ·rw[if_pos h,if_pos h,ih]
  ·rw[if_neg h,if_neg h,if_neg (fun q=>by cases q.1)]
theorem Jbs (u:Nat):10≤u→Lib.decDigits u=Lib.decDigits (u/10)++[UInt8.ofNat (48+u %10)]:=fun h=>Jou (by omega)
theorem Jbr {x:Nat} (h:x<10):(UInt8.ofNat (48+x)).toNat=48+x:=UInt8.toNat_ofNat_of_lt' (by show 48+x<256;omega)
theorem Jan {x:Nat} (h:x<10):Yh (UInt8.ofNat (48+x)).toNat=true:=by
 rw[Jbr h];unfold Yh;simp;omega
theorem Jos (u:Nat):J3 (Lib.decDigits u) 0=((u:Int),true):=by
 induction u using Nat.strongRecOn with
 | ind u ih =>
  by_cases h:u<10
  ·rw[Lib.decDigits_one h]
   show(if Yh (UInt8.ofNat (48+u)).toNat=true then _ else _)=_
   rw[if_pos (Jan h),Jbr h]
   show((_:Int),true)=_
   congr 1;omega
  ·have hd:u %10<10:=Nat.mod_lt _ (by decide)
   rw[Jbs u (by omega),D1,ih (u/10) (by omega),if_pos ⟨rfl,Jan hd⟩,Jbr hd]
   congr 1;dsimp only;omega
theorem Jkf (u:Nat):∃c r,Lib.decDigits u=c::r∧Yh c.toNat=true∧(1≤u→c.toNat≠48):=by
 induction u using Nat.strongRecOn with
 | ind u ih =>
  by_cases h:u<10
  ·refine⟨_,_,Lib.decDigits_one h,Jan h,fun h1=> ?_⟩
   rw[Jbr h];omega
  ·obtain⟨c,r,e,h1,h2⟩:=ih (u/10) (by omega)
   exact⟨c,r++[UInt8.ofNat (48+u %10)],by rw[Jbs u (by omega),e];rfl,h1,fun _=>h2 (by omega)⟩
theorem Jf8 (u:Nat):1≤(Lib.decDigits u).length:=by
 obtain⟨c,r,e,_⟩:=Jkf u
 rw[e];simp
theorem Jww:∀(k u:Nat),((Lib.decDigits u).length≤k+1↔u<10^(k+1))
 | 0, u => by
  by_cases h:u<10
  ·rw[Lib.decDigits_one h];simp;omega
  ·have h2:=Jf8 (u/10)
   rw[Jbs u (by omega),List.length_append]
   simp only[List.length_cons,List.length_nil]
   constructor
   ·intro q;omega
   ·intro q;simp at q;omega
 | k + 1, u => by
  by_cases h:u<10
  ·rw[Lib.decDigits_one h]
   have:10≤10^(k+1+1):=by
    rw[Nat.pow_succ]
    have:=Nat.pos_of_ne_zero (n:=10^(k+1)) (by simp)
    omega
   simp;omega
  ·have ih:=Jww k (u/10)
   rw[Jbs u (by omega),List.length_append]
   simp only[List.length_cons,List.length_nil]
   rw[Nat.pow_succ]
   constructor
   ·intro q
    have:=ih.1 (by omega)
    omega
   ·intro q
    have:=ih.2 (by omega)
    omega
theorem Kig:∀(k:Nat) (l:List UInt8),l.length=k+1→(J3 l 0).2=true→(1<l.length→∀c,l.head? =some c→c.toNat≠48)→l=Lib.decDigits (J3 l 0).1.toNat
 | 0, l, hl, hd, _ => by
  match l,hl with
  | [c], _ =>
   have e:J3 [c] 0=if Yh c.toNat=true then((10*0+(c.toNat-48):Int),true) else(0,false):=rfl
   by_cases h:Yh c.toNat=true
   ·rw[e,if_pos h]
    have hr:=Jcr h
    have:((10*0+((c.toNat:Int)-48))).toNat=c.toNat-48:=by omega
    dsimp only
    rw[this,Lib.decDigits_one (by omega),show 48+(c.toNat-48)=c.toNat by omega,UInt8.ofNat_toNat]
   ·rw[e,if_neg h] at hd;cases hd
 | k + 1, l, hl, hd, h0 => by
  obtain⟨i,c,rfl⟩:∃i c,l=i++[c]:=by
   rcases List.eq_nil_or_concat l with h|⟨i,c,h⟩
   ·rw[h] at hl;simp at hl
   ·exact⟨i,c,by simpa using h⟩
  have hil:i.length=k+1:=by simpa using hl
  have hs:=D1 c i 0
  by_cases hc:(J3 i 0).2=true∧Yh c.toNat=true
  ·rw[if_pos hc] at hs
   have hh:∀d,i.head? =some d→d.toNat≠48:=fun d hd=>h0 (by simp;omega) d (by
    cases i with
    |nil=>cases hd
    |cons a b=>exact hd)
   have ih:=Kig k i hil hc.1 fun _=>hh
   have hr:=Jcr hc.2
   have hn:=(Jat (l:=i) (n:=0) (Int.le_refl _)).1
   obtain⟨m,hm⟩:=Int.eq_ofNat_of_zero_le hn
   rw[hm] at ih hs
   simp only[Int.toNat_natCast] at ih
   have hm1:1≤m:=by
    rcases Nat.eq_zero_or_pos m with h|h
    ·subst h
     rw[ih,Lib.decDigits_one (by decide)] at hh
     exact absurd rfl (hh 48 rfl)
    ·exact h
   rw[hs]
   have e:(10*(m:Int)+((c.toNat:Int)-48)).toNat=10*m+(c.toNat-48):=by omega
   dsimp only
   rw[e,Jbs _ (by omega),show(10*m+(c.toNat-48))/10=m by omega,show 48+(10*m+(c.toNat-48)) %10=c.toNat by omega,UInt8.ofNat_toNat,←ih]
  ·rw[hs,if_neg hc] at hd;cases hd
theorem Jsj {c:UInt8} {r:List UInt8} {n:Nat} (h:48≤c.toNat∧c.toNat≤57) (h1:¬1844674407370955162≤n) (h2:¬18446744073709551616≤n*10+(c.toNat-48)):Lib.parseUint10 n (c::r)=Lib.parseUint10 (n*10+(c.toNat-48)) r:=by
 simp only[Lib.parseUint10]
 rw[if_pos h,if_neg h1,if_neg h2]
theorem Jdg (c:UInt8) (r:List UInt8) (n:Int):J3 (c::r) n=if Yh c.toNat=true then J3 r (10*n+(c.toNat-48)) else(0,false):=rfl
theorem Jvl (l:List UInt8):∀(n:Nat),(J3 l n).2=true→(J3 l n).1<1000000000000000000→Lib.parseUint10 n l= .ok (J3 l n).1.toNat∧(n:Int)≤(J3 l n).1:=by
 induction l with
 |nil=>exact fun n _ _=>⟨rfl,Int.le_refl _⟩
 | cons c r ih =>
  intro n h1 h2
  by_cases h:Yh c.toNat=true
  ·rw[Jdg,if_pos h] at h1 h2⊢
   have hr:=Jcr h
   have en:(10*(n:Int)+((c.toNat:Int)-48))=((n*10+(c.toNat-48):Nat):Int):=by omega
   rw[en] at h1 h2⊢
   obtain⟨a1,a2⟩:=ih _ h1 h2
   have h3:n<1000000000000000000:=by omega
   refine⟨?_,by omega⟩
   rw[Jsj hr (by omega) (by omega)]
   exact a1
  ·rw[Jdg,if_neg h] at h1;cases h1
theorem Jvy {u:Nat} (h:u<1000000000):Lib.parseMag (Lib.decDigits u)= .ok u:=by
 obtain⟨c,r,e,_⟩:=Jkf u
 unfold Lib.parseMag
 rw[if_neg (by rw[e];simp)]
 have hd:=Jos u
 have:=(Jvl (Lib.decDigits u) 0 (by show(J3 _ 0).2=true;rw[hd]) (by show(J3 _ 0).1<_;rw[hd];dsimp only;omega)).1
 rw[this]
 show Lib.NumEnd.ok (J3 _ 0).1.toNat=_
 rw[hd];rfl
theorem Jxv {v:Int} (h0: -1000000000<v) (h1:v<1000000000):Lib.atoiAll (Lib.itoa v)= .ok v:=by
 rcases(by omega:v<0∨0≤v) with hv|hv
 ·obtain⟨u,hu⟩:=Int.eq_ofNat_of_zero_le (by omega:0≤-v)
  have hn:v= -(u:Int):=by omega
  subst hn
  rw[Lib.itoa_neg u (by omega)]
  have hm:=Jvy (u:=u) (by omega)
  have e45:(45:UInt8).toNat=45:=rfl
  simp only[Lib.atoiAll,e45]
  rw[if_pos (Or.inr trivial),hm]
  dsimp only
  rw[if_neg (by omega),if_neg (by omega),if_pos trivial]
 ·obtain⟨u,rfl⟩:=Int.eq_ofNat_of_zero_le hv
  have e:Lib.itoa (u:Int)=Lib.decDigits u:=Lib.itoa_nonneg u
  rw[e]
  have hm:=Jvy (u:=u) (by omega)
  obtain⟨c,r,e,h3,h4⟩:=Jkf u
  have hr:=Jcr h3
  rw[e] at hm⊢
  simp only[Lib.atoiAll]
  rw[if_neg (by omega),hm]
  dsimp only
  rw[if_neg (by omega),if_neg (by omega),if_neg (by omega)]
theorem Js1 {s:ByteArray} (h:(Jl s).2=true):∃u:Nat,u<1000000000∧s.data.toList=Lib.decDigits u∧(Jl s).1=u:=by
 have hr:=Jor s
 obtain⟨u,hu⟩:=Int.eq_ofNat_of_zero_le hr.1
 by_cases hb:L5 s=true
 ·unfold Jl at h;rw[if_pos hb] at h;cases h
 ·have ed:Jl s=J3 s.data.toList 0:=by unfold Jl;rw[if_neg hb]
  have hb:L5 s=false:=by simpa using hb
  unfold L5 at hb
  simp only[Bool.or_eq_false_iff,decide_eq_false_iff_not,Bool.and_eq_false_iff] at hb
  obtain⟨⟨b1,b2⟩,b3⟩:=hb
  have hl:s.data.toList.length=s.size:=by simp
  have:=Kig (s.size-1) s.data.toList (by omega) (by rw[←ed];exact h) (fun hl2 c hc=>by
   rcases b3 with b3|b3
   ·omega
   ·intro q
    apply b3
    have:Jbu s 0=c.toNat:=by
     unfold Jbu
     rw[List.getD_eq_getElem?_getD]
     have e0:s.data.toList[(0:Int).toNat]? =some c:=by rw[←hc];simp[List.head?_eq_getElem?]
     rw[e0];rfl
    rw[this,q];rfl)
  rw[←ed,hu] at this
  exact⟨u,by omega,this,hu⟩
theorem Jgo:∀{l:List UInt8} {n:Int},Xl l=true→(J3 l n).2=true
 |[],_,_=>rfl
 |c::r,n,h=>by
  rw[Xl,Bool.and_eq_true] at h
  rw[J3,if_pos h.1]
  exact Jgo h.2
theorem Jfv:∀{l:List UInt8} {n:Int},(J3 l n).2=true→Xl l=true
 |[],_,_=>rfl
 | c :: r, n, h => by
  rw[J3] at h
  by_cases q:Yh c.toNat=true
  ·rw[if_pos q] at h
   rw[Xl,q,Jfv h];rfl
  ·rw[if_neg q] at h;cases h
theorem Jf6:∀{l:List UInt8} {n:Int},(J3 l n).2=false→J3 l n=(0,false)
 |[],_,h=>by cases h
 |c::r,n,h=>by
  rw[J3] at h⊢
  by_cases q:Yh c.toNat=true
  ·rw[if_pos q] at h⊢;exact Jf6 h
  ·rw[if_neg q]
theorem Jv9 (s:ByteArray):(bif bif !Jqn s then true else decide (9<(s.size:Int)) then true else bif decide (1<(s.size:Int)) then(((s.data.toList.getD 0 0).toNat:Int)==48) else false)= !(Jl s).2:=by
 have hb:=Jms s
 have hl:s.data.toList.length=s.size:=by simp
 unfold Jqn
 cases ha:Xl s.data.toList with
 | false =>
  have e:(Jl s).2=false:=by
   unfold Jl
   split
   ·rfl
   ·cases h:(J3 s.data.toList 0).2 with
    |false=>rfl
    |true=>rw[Jfv h] at ha;cases ha
  rw[e];rfl
 | true =>
  have e:(Jl s).2= !L5 s:=by
   unfold Jl
   cases hd:L5 s with
   |true=>rfl
   |false=>exact Jgo ha
  rw[e,←hb]
  have e1:decide (0<s.size)= !((s.size:Int)==0):=by
   by_cases q:s.size=0
   ·rw[q];rfl
   ·rw[decide_eq_true (by omega),beq_eq_false_iff_ne.2 (by omega)];rfl
  rw[e1]
  cases((s.size:Int)==0)<;>simp
theorem Js6 {s:ByteArray} (h:(Jl s).2=true):Jtr s=(Jl s).1:=by
 obtain⟨u,h1,h2,h3⟩:=Js1 h
 have e:Lib.itoa (u:Int)=Lib.decDigits u:=Lib.itoa_nonneg u
 have:=Jxv (v:=(u:Int)) (by omega) (by omega)
 unfold Jtr
 rw[h2,←e,this,h3]
def K7o (a:Bt):=bif !Jqn a then true else decide (9<Nc (ByteArray.size a))
theorem Kwc:Ok Tryz.prog 187 Jxk:=okW Uad Tryz.f187 na fun xx=>by
 obtain⟨(s:ByteArray),_⟩:=xx
 refine(by kernel_rfl:(ByteArray.size s≤1000000→(ByteArray.size s≤1000000∧(K7o s=false∧decide (1<Nc (ByteArray.size s))=true→Bd 0 (Nc (ByteArray.size s))))∧Br (bif K7o s then true else Kqe s) (Km9 s) (ByteArray.size s≤1000000∧Jtr s=(Jl s).1∧true=(Jl s).2))=_).mp ?_
 delta Z11 Km9 K7o Kmx Kqe Br Bd Nc
 intro hs
 rw[Jv9]
 refine⟨⟨hs,fun h=>⟨Int.le_refl _,by have:=of_decide_eq_true h.2;omega⟩⟩,fun h=> ?_,fun h=> ?_⟩
 ·have h:(Jl s).2=false:=by simpa using h
  have e:Jl s=(0,false):=by
   unfold Jl at h⊢
   split
   ·rfl
   ·rename_i q
    rw[if_neg q] at h
    exact Jf6 h
  rw[e];exact⟨rfl,rfl⟩
 ·have h:(Jl s).2=true:=by simpa using h
  exact⟨hs,Js6 h,h.symm⟩
abbrev Uac:=Uad.add Kwc
def Jto:List UInt8→Int→Int
 |[],x=>x
 |b::r,x=>Jto r ((341*x+(b.toNat:Int)).tmod 9999721)
def Jg2 (s:ByteArray):Int:=Jto s.data.toList 1
def K8b (l:List UInt8):List UInt8:=List.replicate (7-l.length) 48++l
def Jgr (s:ByteArray):ByteArray:=bs (K8b (Lib.itoa (Jg2 s)))
theorem Juk:∀{l:List UInt8} {x:Int},0≤x∧x<9999721→0≤Jto l x∧Jto l x<9999721
 |[],_,h=>h
 |b::r,x,h=>by
  unfold Jto
  have hb:(0:Int)≤b.toNat:=by omega
  exact Juk ⟨Int.tmod_nonneg _ (by omega),Int.tmod_lt_of_pos _ (by decide)⟩
theorem Jnq (s:ByteArray):0≤Jg2 s∧Jg2 s<9999721:=Juk ⟨by decide,by decide⟩
theorem Jjd (s:ByteArray):1≤(Lib.itoa (Jg2 s)).length∧(Lib.itoa (Jg2 s)).length≤7:=by
 obtain⟨h0,h1⟩:=Jnq s
 obtain⟨u,hu⟩:=Int.eq_ofNat_of_zero_le h0
 rw[hu] at h1⊢
 rw[show Lib.itoa (u:Int)=Lib.decDigits u from Lib.itoa_nonneg u]
 exact⟨Jf8 u,(Jww 6 u).2 (by have:u<9999721:=(by omega);omega)⟩
theorem Ubh (n:Nat):Lib.repeatL [48] n=List.replicate n 48:=by
 induction n with
 |zero=>rfl
 |succ n ih=>rw[List.replicate_succ,←ih];rfl
def K8p:Con:={args:=[aS],ress:=[tS],owns:=[],pre:=fun(s,_)=>[s.size≤1000000],spec:=fun(s,_)=>(Jgr s,())}
abbrev Kj2 (s:ByteArray):Ann:={X:=Nat×Int,σ:=fun(k,x)=>⟨0,[(0, .one (.str s)),(3, .one (.int .i64 x)),(7, .one (.int .i64 s.size)),(8, .one (.int .i64 k))],[]⟩,inv:=fun(k,x)=>k≤s.size∧(0≤x∧x<9999721)∧Jto (s.data.toList.drop k) x=Jg2 s,mu:=fun(k,_)=>s.size-k}
theorem Jxl (s:ByteArray) (k:Nat):(s.data.toList.getD k 0).toNat<256:=(s.data.toList.getD k 0).toNat_lt
def Knn (a:Nat×Int):=7-Nc (ByteArray.size (Ux a.2))
def K65 (a:Nat×Int):=Khq (ByteArray.mk (Array.mk [48])) (Knn a)
def Kse (a:Nat×Int) (b:Bt):=341*a.2+Nc (UInt8.toNat (List.getD (Z11 b) a.1 0))
def Kq7 (a:Nat×Int) (b:Bt) (c:Nat×Int):=Int.tmod (Kse a b) 9999721=c.2
def J9l (a:Nat×Int) (b:Bt):=a.1≤ByteArray.size b∧Bd a.2 9999721∧Jto (List.drop a.1 (Z11 b)) a.2=Jg2 b
def Kpl (a:Nat×Int) (b:Bt) (c:Nat×Int):=J9l a b∧ByteArray.size b-a.1<ByteArray.size b-c.1
def Kok (a:Nat×Int) (b:Bt):=Iw (341*a.2)∧Bd (Nc a.1) (Nc (ByteArray.size b))∧Iw (Nc (UInt8.toNat (List.getD (Z11 b) a.1 0)))∧Iw (Kse a b)∧((9999721:Int)=0→False)
theorem Kwe:Ok Tryz.prog 184 K8p:=okW Uac Tryz.f184 (fun xx=>Y4 (Kj2 xx.1)) fun xx=>by
 obtain⟨(s:ByteArray),_⟩:=xx
 refine(by kernel_rfl:(ByteArray.size s≤1000000→∃(x:Nat×Int),Sf s (1=x.2∧Si (Nc (ByteArray.size s)) (0=Nc x.1))∧J9l x s∧∀(x:Nat×Int),J9l x s→Br (decide (Nc x.1<Nc (ByteArray.size s))) (Kok x s∧Z46 x∧∃(y:Nat×Int),Sf s (Kq7 x s y∧Si (Nc (ByteArray.size s)) (Jnb x y))∧Kpl y s x) (Iw x.2∧(Iw (Knn x)∧1≤1000000∧(0≤Knn x∧Knn x≤1000000)∧Nc (ByteArray.size (K65 x)+ByteArray.size (Ux x.2))≤9223372036854775807)∧ByteArray.mk (Array.mk ((K65 x).data.toList++(Ux x.2).data.toList))=Jgr s))=_).mp ?_
 delta Z11 Z46 Jnb Knn K65 Kse Kq7 J9l Kpl Kok Br Iw Bd Sf Si Nc
 intro hs
 refine⟨((0:Nat),(1:Int)),by simp,⟨Nat.zero_le _,by(first|omega|dsimp only;omega),rfl⟩,fun(y:Nat×Int) hk=>⟨fun h=> ?_,fun h=> ?_⟩⟩
 ·obtain⟨k,x⟩:=y
  have hlt:k<s.size:=by simpa using h
  obtain⟨k1,k2,k3⟩:=hk
  dsimp only at k1 k2
  rw[Lm hlt,Jto] at k3
  have hb:=Jxl s k
  refine⟨by(dsimp only;omega),by(dsimp only;omega),(k+1,_),⟨rfl,rfl,rfl, ?_⟩,⟨by(first|omega|dsimp only;omega), ?_,k3⟩,by(first|omega|dsimp only;omega)⟩
  ·dsimp only;push_cast;rfl
  ·exact⟨Int.tmod_nonneg _ (by(first|omega|dsimp only;omega)),Int.tmod_lt_of_pos _ (by decide)⟩
 ·obtain⟨k,x⟩:=y
  have hlt:¬k<s.size:=by simpa using h
  obtain⟨k1,k2,k3⟩:=hk
  have e:k=s.size:=by omega
  rw[e,List.drop_eq_nil_of_le (by simp),Jto] at k3
  have k3:x=Jg2 s:=k3
  have hl:=Jjd s
  dsimp only
  rw[k3]
  have hz:(Ux (Jg2 s)).size=(Lib.itoa (Jg2 s)).length:=rfl
  rw[hz]
  have hr:Khq {data:={toList:=[48]}} (7-((Lib.itoa (Jg2 s)).length:Int))=bs (List.replicate (7-(Lib.itoa (Jg2 s)).length) 48):=by
   unfold Khq
   rw[show(7-((Lib.itoa (Jg2 s)).length:Int)).toNat=7-(Lib.itoa (Jg2 s)).length by omega]
   exact congrArg bs (Ubh _)
  have hb:=Jnq s
  rw[hr,Va,List.length_replicate]
  exact⟨by omega,⟨by omega,by decide,by omega,by omega⟩,rfl⟩
abbrev Uab:=Uac.add Kwe
def Dh (e:Ev):List ByteArray:=Ux e.1::e.2.1::(e.2.2.1++e.2.2.2.1.map Ux)
def V7 (e:Ev):ByteArray:=Uj (Dh e) ⟨⟨[32]⟩⟩
def Ki8:Con:={args:=[.val false (.list 3 sI), .fn [I] tS],ress:=[(false, .list 9 .str)],owns:=[true],pre:=fun(l,(q,_),_)=>[l.length≤1000000,∀x∈l,Up (q (x,()))],spec:=fun(l,(_,f),_)=>(l.map fun x=>f (x,()),())}
def Kgi (a:Int×Unit→Bt) (b:Nat) (c:Li):=List.map (fun(x:Int)=>a (x,PUnit.unit)) (List.take b c)
theorem Kv0:Ok Tryz.prog 199 Ki8:=okW Uab Tryz.f199 (fun xx=>Y4 (Jbz 3 9 sI xx.1 tS false xx.2.1.1 xx.2.1.2)) fun xx=>by
 obtain⟨(l:List Int),⟨(q:Int×Unit→List Prop),(f:Int×Unit→ByteArray)⟩,_⟩:=xx
 refine(by kernel_rfl:(Z61 l→Ksa l q→∃(x:Nat),Si (Ln l) (0=Nc x∧Sf l ((fun(x:Int×PUnit)=>q x)=q∧(fun(x:Int×PUnit)=>f x)=f∧List.length (Kgi f x l)=0))∧x≤List.length l∧∀(x:Nat),x≤List.length l→Br (J0f x l) (Z91 x l∧(Up (q (Z17 l x,PUnit.unit))∧(List.length (Kgi f x l)+1)*16≤140737488355328)∧Z20 x∧∃(y:Nat),Si (Ln l) (Vm x y∧Sf l ((fun(x:Int×PUnit)=>q x)=q∧(fun(x:Int×PUnit)=>f x)=f∧Kgi f x l++[f (Z17 l x,PUnit.unit)]=Kgi f y l))∧Kf3 y l x) (Kgi f x l=List.map (fun(x:Int)=>f (x,PUnit.unit)) l))=_).mp ?_
 delta Z17 Z20 Z61 Z91 Vm J0f J95 Jz9 Kgi Kf3 Ksa Br Iw Bd Tw Sf Si Ln Nc
 intro hb hq
 refine⟨(0:Nat),⟨rfl,rfl,rfl,rfl,rfl,by simp⟩,Nat.zero_le _,fun(k:Nat) hk=>⟨fun h=> ?_,fun h=> ?_⟩⟩
 ·have hlt:k<l.length:=by simpa using h
  refine⟨by omega,⟨hq (l.getD k 0) (Je hlt),by simp only[List.length_map,List.length_take];omega⟩,by omega,(k+1:Nat),⟨rfl,by simp,rfl,rfl,rfl, ?_⟩,by omega,by omega⟩
  rw[←Km (d:=0) hlt,List.map_append];rfl
 ·have hlt:¬k<l.length:=by simpa using h
  rw[List.take_of_length_le (by omega)]
abbrev Uaa:=Uab.add Kv0
structure Xb (e:Ev):Prop where
 num: -999999999≤e.1∧e.1≤999999999
 nn:e.2.2.1.length≤1000
 nv:e.2.2.2.1.length≤1000
 val:∀v∈e.2.2.2.1,-999999999≤v∧v≤999999999
 siz:((Dh e).map fun s=>s.size+1).sum≤1000000
theorem Jbh {sep:List UInt8} (hs:sep.length=1):∀{l:List (List UInt8)},(Lib.join l sep).length≤(l.map fun x=>x.length+1).sum
 |[]=>by simp[Lib.join,List.intercalate]
 |[x]=>by simp[Lib.join,List.intercalate,List.intersperse]
 |x::y::r=>by
  have ih:=Jbh hs (l:=y::r)
  have e:Lib.join (x::y::r) sep=x++sep++Lib.join (y::r) sep:=by simp[Lib.join,List.intercalate,List.intersperse]
  rw[e]
  simp only[List.length_append,List.map_cons,List.sum_cons] at ih⊢
  omega
theorem Jim {e:Ev} (h:Xb e):(Lib.join ((Dh e).map (·.data.toList)) [32]).length≤1000000:=by
 refine Nat.le_trans (Jbh (sep:=[32]) rfl) (Nat.le_trans (Nat.le_of_eq ?_) h.siz)
 rw[List.map_map]
 congr 1
def Kjs:Con:={args:=[aEv],ress:=[tS],owns:=[],pre:=fun(e,_)=>[Xb e],spec:=fun(e,_)=>(V7 e,())}
def H6:=ByteArray.mk (Array.mk [32])
def Ks4 (a:Ls) (b:Li):=[]++a++List.map (fun(x:Int)=>Ux x) b
theorem Kwf:Ok Tryz.prog 183 Kjs:=okW Uaa Tryz.f183 na fun xx=>by
 obtain⟨⟨(n:Int),(k:ByteArray),(ns:List ByteArray),(vs:List Int),(tx:ByteArray)⟩,_⟩:=xx
 refine(by kernel_rfl:(Xb (n,k,ns,vs,tx)→(Iw n∧(2+List.length ns)*16≤140737488355328)∧(Z61 vs∧(∀(x:Int),J95 vs x→Iw x)∧(List.length (Ux n::k::([]++ns))+List.length (List.map (fun(x:Int)=>Ux x) vs))*16≤140737488355328∧List.length (Ux n::k::Ks4 ns vs)≤1000000∧List.length (Lib.join ((Ux n).data.1::k.data.1::List.map (fun(x:ByteArray)=>Z11 x) (Ks4 ns vs)) [32])≤140737488355328)∧Uj (Ux n::k::Ks4 ns vs) H6=V7 (n,k,ns,vs,tx))=_).mp ?_
 delta Z11 Z61 H6 J95 Ks4 Iw
 intro h
 have h1: -999999999≤n∧n≤999999999:=h.num
 have h2:ns.length≤1000:=h.nn
 have h3:vs.length≤1000:=h.nv
 have hs:=Jim h
 simp only[List.nil_append,List.length_cons,List.length_append,List.length_map]
 exact⟨by omega,⟨by omega,fun x hx=>by have:=h.val x hx;omega,by omega,by omega,Nat.le_trans hs (by decide)⟩,rfl⟩
abbrev K99:=Uaa.add Kwf
theorem Jes (s:ByteArray):(Jgr s).size=7:=by
 have h:=Jjd s
 unfold Jgr K8b
 rw[Va,List.length_append,List.length_replicate]
 omega
theorem Jeg {e:Ev} (h:Xb e):(V7 e).size≤1000000:=Jim h
def Jtq (e:Ev):ByteArray:=bs ((V7 e).data.toList++[35]++(Jgr (V7 e)).data.toList++[10])
def Uc3:Con:={args:=[aEv],ress:=[tS],owns:=[],pre:=fun(e,_)=>[Xb e],spec:=fun(e,_)=>(Jtq e,())}
def K10 (a:Int) (b:Bt) (c:Ls) (d:Li) (e:Bt):=Array.mk ((Array.mk ((V7 (a,b,c,d,e)).data.toList++[35])).toList++(Jgr (V7 (a,b,c,d,e))).data.toList)
theorem Kyb:Ok Tryz.prog 106 Uc3:=okW K99 Tryz.f106 na fun xx=>by
 obtain⟨⟨(n:Int),(k:ByteArray),(ns:List ByteArray),(vs:List Int),(tx:ByteArray)⟩,_⟩:=xx
 refine(by kernel_rfl:(Xb (n,k,ns,vs,tx)→Xb (n,k,ns,vs,tx)∧(Nc (ByteArray.size (V7 (n,k,ns,vs,tx))+1)≤9223372036854775807∧ByteArray.size (V7 (n,k,ns,vs,tx))≤1000000∧Nc (ByteArray.size (ByteArray.mk (Array.mk ((V7 (n,k,ns,vs,tx)).data.toList++[35])))+ByteArray.size (Jgr (V7 (n,k,ns,vs,tx))))≤9223372036854775807∧Nc (ByteArray.size (ByteArray.mk (K10 n k ns vs tx))+1)≤9223372036854775807)∧ByteArray.mk (Array.mk ((K10 n k ns vs tx).toList++[10]))=Jtq (n,k,ns,vs,tx))=_).mp ?_
 delta K10 Nc
 intro h
 have h1:=Jeg h
 have h2:=Jes (V7 (n,k,ns,vs,tx))
 have h3:(bs ((V7 (n,k,ns,vs,tx)).data.toList++[35])).size=(V7 (n,k,ns,vs,tx)).size+1:=by rw[Va,List.length_append];simp
 have h4:(bs ((V7 (n,k,ns,vs,tx)).data.toList++[35]++(Jgr (V7 (n,k,ns,vs,tx))).data.toList)).size=(V7 (n,k,ns,vs,tx)).size+8:=by rw[Va,List.length_append,List.length_append];simp[h2]
 refine⟨h,⟨by omega,h1, ?_, ?_⟩,rfl⟩
 ·show((bs ((V7 (n,k,ns,vs,tx)).data.toList++[35])).size+(Jgr (V7 (n,k,ns,vs,tx))).size:Nat)≤(9223372036854775807:Int)
  omega
 ·show((bs ((V7 (n,k,ns,vs,tx)).data.toList++[35]++(Jgr (V7 (n,k,ns,vs,tx))).data.toList)).size+1:Nat)≤(9223372036854775807:Int)
  omega
abbrev Ueh:=K99.add Kyb
abbrev K98:=Ueh.add Kux
abbrev Tk:=List ByteArray×Bool
def Uq:Tk→ByteArray×Tk
 |([],_)=>(Jb,[],true)
 |(w::l,b)=>bif w.toList==Jb.toList then(Jb,[],true) else(w,l,b)
def L4 (t:Tk):Bool:=bif (t.1.length:Int)==0 then true else(t.1.getD 0 Jb).toList==Jb.toList
theorem Ja2:∀(t:Tk),Uq t=bif L4 t then(Jb,[],true) else(t.1.getD 0 Jb,t.1.drop 1,t.2)
 |([],_)=>rfl
 | (w :: l, b) => by
  have e:L4 (w::l,b)=(w.toList==Jb.toList):=by
   unfold L4
   rw[beq_eq_false_iff_ne.2 (show(((w::l,b):Tk).1.length:Int)≠0 by simp;omega)];rfl
  rw[e]
  show(bif w.toList==Jb.toList then(Jb,[],true) else(w,l,b))=_
  cases w.toList==Jb.toList<;>rfl
theorem Jed {t:Tk} (h:L4 t=false):0<t.1.length:=by
 unfold L4 at h
 by_cases q:t.1.length=0
 ·rw[q] at h;cases h
 ·omega
def Jdq (t:Tk):Int×Tk:=((Jl (Uq t).1).1,(Uq t).2.1,bif (Uq t).2.2 then true else !(Jl (Uq t).1).2)
def Vx:Nat→Tk→List ByteArray→List ByteArray×Tk
 |0,t,o=>(o,t)
 |n+1,t,o=>Vx n (Uq t).2 (o++[(Uq t).1])
def Yx:Nat→Tk→List Int→List Int×Tk
 |0,t,o=>(o,t)
 |n+1,t,o=>Yx n (Jdq t).2 (o++[(Jdq t).1])
def evz:Ev:=(0,Jb,[],[],Jb)
theorem Dx (k:ByteArray):(Jh k).1.length≤3∧0≤(Jh k).2.1∧(Jh k).2.1≤4:=by
 cases h:Uo k with
 | false =>
  have e:Jh k=([],0,none,none,none):=by
   unfold Uo at h
   unfold Jh
   cases hm:Vv .str k L3 with
   |none=>rfl
   |some v=>rw[hm] at h;cases h
  rw[e];decide
 |true=>
  rcases Vl h with h|h|h|h|h|h|h|h|h|h|h<;>subst h
  all_goals first|(rw[Jci];decide)|(rw[Ui];decide)|(rw[Vj];decide)|(rw[U1];decide)|(rw[U2];decide)|(rw[Vw];decide)|(rw[K7];decide)|(rw[Kt];decide)|(rw[Ug];decide)|(rw[Uf];decide)|(rw[Uw];decide)
def X1 (ws:List ByteArray):List ByteArray×Tk:=Vx (Jh (Uq (ws,false)).1).1.length (Uq (ws,false)).2 []
def Jbb (ws:List ByteArray):List Int×Tk:=Yx (Jh (Uq (ws,false)).1).2.1.toNat (X1 ws).2 []
def Um (ws:List ByteArray):Ev×Bool:=bif Uo (Uq (ws,false)).1 then((0,(Uq (ws,false)).1,(X1 ws).1,(Jbb ws).1,Jb),bif !(Jbb ws).2.2 then((Jbb ws).2.1.length:Int)==0 else false) else(evz,false)
def Kyy:Con:={args:=[.val false (.list 9 .str)],ress:=[(true,sEv),Bo],owns:=[],pre:=fun(ws,_)=>[ws.length≤1000000,∀w∈ws,w.size≤1000000],spec:=fun(ws,_)=>((Um ws).1,(Um ws).2,())}
abbrev J8z (ws:List ByteArray):Nat→Option Ann:=fun id=>if id=0 then some {X:=Nat×Tk×List ByteArray,σ:=fun(i,(rem,b),o)=>⟨9,[(2, .one (.ptr 1 0)),(4, .one (.ptr 2 0)),(5, .one (.fv 3)),(6, .one (.fv 4)),(7, .one (.ptr 5 0)),(8, .one (.ptr 7 0)),(34, .one (.int .i64 (Jh (Uq (ws,false)).1).1.length)),(35, .one (.int .i64 i))],[(1, .box 67 [.int .i64 0, .str Jb, .val (.slice none 0 0), .val (.slice none 0 0), .str Jb]),(2, .box 279 [.sl 0, .bool b]),(3, .clo 210 [.one (.ptr 2 0)] []),(4, .clo 211 [.one (.ptr 2 0)] []),(5, .box 67 [.int .i64 0, .str (Uq (ws,false)).1, .sl 6, .val (.slice none 0 0), .str Jb]),(7, .box 173 [.sl 8, .int .i64 (Jh (Uq (ws,false)).1).2.1, .fno (Jh (Uq (ws,false)).1).2.2.1, .fno (Jh (Uq (ws,false)).1).2.2.2.1, .fno (Jh (Uq (ws,false)).1).2.2.2.2]),(6, .own 9 .str o),(8, .imm 251 J05 (Jh (Uq (ws,false)).1).1),(0, .imm 9 .str rem)]⟩,inv:=fun(i,t,o)=>i≤(Jh (Uq (ws,false)).1).1.length∧t.1.length≤1000000∧(∀w∈t.1,w.size≤1000000)∧o.length=i∧Vx ((Jh (Uq (ws,false)).1).1.length-i) t o=X1 ws,mu:=fun(i,_)=>(Jh (Uq (ws,false)).1).1.length-i}
 else if id=2 then some {X:=Nat×Tk×List Int,σ:=fun(i,(rem,b),o)=>⟨10,[(2, .one (.ptr 1 0)),(4, .one (.ptr 2 0)),(6, .one (.fv 4)),(7, .one (.ptr 5 0)),(47, .one (.int .i64 (Jh (Uq (ws,false)).1).2.1)),(48, .one (.int .i64 i))],[(1, .box 67 [.int .i64 0, .str Jb, .val (.slice none 0 0), .val (.slice none 0 0), .str Jb]),(2, .box 279 [.sl 0, .bool b]),(4, .clo 211 [.one (.ptr 2 0)] []),(5, .box 67 [.int .i64 0, .str (Uq (ws,false)).1, .sl 6, .sl 9, .str Jb]),(6, .own 9 .str (X1 ws).1),(9, .own 3 sI o),(0, .imm 9 .str rem)]⟩,inv:=fun(i,t,o)=>i≤(Jh (Uq (ws,false)).1).2.1.toNat∧t.1.length≤1000000∧(∀w∈t.1,w.size≤1000000)∧o.length=i∧Yx ((Jh (Uq (ws,false)).1).2.1.toNat-i) t o=Jbb ws,mu:=fun(i,_)=>(Jh (Uq (ws,false)).1).2.1.toNat-i}
 else none
def Z81 (a:Ls):=(Jh (Uq (a,false)).1).1
def Z82 (a:Ls):=(Jh (Uq (a,false)).1).2
def J0g (a:Ls):=(Z82 a).1
def Knr (a:Ls):=(Z82 a).2.1
def Knq (a:Ls):=(Z82 a).2.2.2
def Knp (a:Ls):=(Z82 a).2.2.1
def Knm (a:Nat×Tk×Li):=List.getD a.2.1.1 0 B0
def J98 (a:Ls):=Int.toNat (J0g a)
def Kgn (a:Ls):=Ln (Z81 a)
def J91 (a:Ls):=List.length (Z81 a)
def K7t (a:Nat×Tk×Ls):=(List.length a.2.2+1)*16≤140737488355328
def K7q (a:Ls):=(Jh (Uq (a,false)).1).1=Z81 a
def K5u (a:Ls):=Sf true (Di=(Um a).1∧false=(Um a).2)
def K2x (a:Ls):=Vv Sch.str (Uz a) L3
def J4g (a:Ls):=Option.getD (K2x a) Kf2
def Kea (a:Nat×(Ls×Bool)×Li) (b:Ls):=a.1≤J98 b∧List.length a.2.1.1≤1000000∧(∀(w:ByteArray),w∈a.2.1.1→ByteArray.size w≤1000000)∧List.length a.2.2=a.1∧Yx (J98 b-a.1) a.2.1 a.2.2=Jbb b
def Kd9 (a:Ls):=(J4g a).2
def Kd8 (a:Ls):=(Kd9 a).2
def Kd7 (a:Ls):=(Kd8 a).2
def Kdx (a:Nat×(Ls×Bool)×Ls) (b:Ls):=a.1≤J91 b∧List.length a.2.1.1≤1000000∧(∀(w:ByteArray),w∈a.2.1.1→ByteArray.size w≤1000000)∧List.length a.2.2=a.1∧Vx (J91 b-a.1) a.2.1 a.2.2=X1 b
def Kdh (a:Nat×(Ls×Bool)×Li) (b:Ls) (c:Nat×Tk×Li):=Kea a b∧J98 b-a.1<J98 b-c.1
def Kc6 (a:Nat×(Ls×Bool)×Ls) (b:Ls) (c:Nat×Tk×Ls):=Kdx a b∧J91 b-a.1<J91 b-c.1
def Kad (a:Nat×(Ls×Bool)×Ls) (b:Ls):=Kdx a b∧∀(x:Nat×Tk×List ByteArray),x.1≤J91 b∧List.length x.2.1.1≤1000000∧(∀(w:ByteArray),w∈x.2.1.1→ByteArray.size w≤1000000)∧List.length x.2.2=x.1∧Vx (J91 b-x.1) x.2.1 x.2.2=X1 b→Br (decide (Nc x.1<Kgn b)) (Tw ((Ln x.2.1.1==0)=false→Bd 0 (Ln x.2.1.1))∧Br (bif Ln x.2.1.1==0 then true else Lb (List.getD x.2.1.1 0 B0) B0) (K7t x∧Iw (Nc x.1+1)∧∃(y:Nat×(List ByteArray×Bool)×List ByteArray),Si (Kgn b) (Nc x.1+1=Nc y.1∧Si 0 (Sf Jb (Sf Vh (Sf Vh (Sf Jb (true=y.2.1.2∧Si 0 (Sf (Uq (b,false)).1 (Sf Vh (Sf Jb (Si (J0g b) (Sf (Knr b) (Sf (Knp b) (Sf (Knq b) (x.2.2++[B0]=y.2.2∧K7q b∧List.length y.2.1.1=0))))))))))))))∧Kc6 y b x) (Tw (Bd 0 (Ln x.2.1.1))∧((0:Int)≤1∧1≤Ln x.2.1.1∧Ln x.2.1.1≤Ln x.2.1.1)∧K7t x∧Iw (Nc x.1+1)∧∃(y:Nat×(List ByteArray×Bool)×List ByteArray),Si (Kgn b) (Nc x.1+1=Nc y.1∧Si 0 (Sf Jb (Sf Vh (Sf Vh (Sf Jb (x.2.1.2=y.2.1.2∧Si 0 (Sf (Uq (b,false)).1 (Sf Vh (Sf Jb (Si (J0g b) (Sf (Knr b) (Sf (Knp b) (Sf (Knq b) (x.2.2++[List.getD x.2.1.1 0 B0]=y.2.2∧K7q b∧List.drop 1 (List.take (List.length x.2.1.1) x.2.1.1)=y.2.1.1))))))))))))))∧Kc6 y b x)) (∃(x_1:Nat×(List ByteArray×Bool)×List Int),Si (J0g b) (0=Nc x_1.1∧Si 0 (Sf Jb (Sf Vh (Sf Vh (Sf Jb (x.2.1.2=x_1.2.1.2∧Si 0 (Sf (Uq (b,false)).1 (Sf Jb (x.2.2=(X1 b).1∧List.length x_1.2.2=0∧x.2.1.1=x_1.2.1.1)))))))))∧Kea x_1 b∧∀(x:Nat×Tk×List Int),x.1≤J98 b∧List.length x.2.1.1≤1000000∧(∀(w:ByteArray),w∈x.2.1.1→ByteArray.size w≤1000000)∧List.length x.2.2=x.1∧Yx (J98 b-x.1) x.2.1 x.2.2=Jbb b→Br (decide (Nc x.1<J0g b)) (Tw ((Ln x.2.1.1==0)=false→Bd 0 (Ln x.2.1.1))∧Br (bif Ln x.2.1.1==0 then true else Lb (Knm x) B0) (0≤1000000∧(List.length x.2.2+1)*8≤140737488355328∧Iw (Nc x.1+1)∧∃(y:Nat×(List ByteArray×Bool)×List Int),Si (J0g b) (Nc x.1+1=Nc y.1∧Si 0 (Sf Jb (Sf Vh (Sf Vh (Sf Jb (true=y.2.1.2∧Si 0 (Sf (Uq (b,false)).1 (Sf Jb ((X1 b).1=(X1 b).1∧x.2.2++[(Jl B0).1]=y.2.2∧List.length y.2.1.1=0)))))))))∧Kdh y b x) (Tw (Bd 0 (Ln x.2.1.1))∧((0:Int)≤1∧1≤Ln x.2.1.1∧Ln x.2.1.1≤Ln x.2.1.1)∧ByteArray.size (Knm x)≤1000000∧(List.length x.2.2+1)*8≤140737488355328∧Iw (Nc x.1+1)∧∃(y:Nat×(List ByteArray×Bool)×List Int),Si (J0g b) (Nc x.1+1=Nc y.1∧Si 0 (Sf Jb (Sf Vh (Sf Vh (Sf Jb ((bif x.2.1.2 then true else !(Jl (Knm x)).2)=y.2.1.2∧Si 0 (Sf (Uq (b,false)).1 (Sf Jb ((X1 b).1=(X1 b).1∧x.2.2++[(Jl (Knm x)).1]=y.2.2∧List.drop 1 (List.take (List.length x.2.1.1) x.2.1.1)=y.2.1.1)))))))))∧Kdh y b x)) (Sf true ((0,(Uq (b,false)).1,(X1 b).1,x.2.2,Jb)=(Um b).1∧(bif !x.2.1.2 then Ln x.2.1.1==0 else false)=(Um b).2)))
theorem Kxz:Ok Tryz.prog 120 Kyy:=J1g K98 Tryz.f120 (U6 (l:=([(210,Tryz.f210),(211,Tryz.f211)]:List (Nat×Func))) (List.forall_mem_cons.2 ⟨by kernel_rfl,List.forall_mem_cons.2 ⟨by kernel_rfl,by simp⟩⟩)) (fun xx=>J8z xx.1) (fun xx=>fun _=>na ()) fun xx=>by
 obtain⟨(ws:List ByteArray),_⟩:=xx
 refine(by kernel_rfl:(F5 ws→Jhi ws→Tw ((Ln ws==0)=false→Yd ws)∧Br (bif Ln ws==0 then true else Lb (Uz ws) B0) (Br true (K5u ws) (∃(x:Nat×(List ByteArray×Bool)×List ByteArray),(0=Kgn ws∧0=Nc x.1∧Si 0 (B0=Jb∧Sf Vh (Sf Vh (B0=Jb∧true=x.2.1.2∧Si 0 (B0=(Uq (ws,false)).1∧Sf Vh (B0=Jb∧0=J0g ws∧none=Knr ws∧none=Knp ws∧none=Knq ws∧List.length x.2.2=0∧[]=Z81 ws∧List.length x.2.1.1=0))))))∧Kad x ws)) (Tw (Yd ws)∧((0:Int)≤1∧1≤Ln ws∧Ln ws≤Ln ws)∧Br (!Option.isSome (K2x ws)) (K5u ws) (∃(x:Nat×(List ByteArray×Bool)×List ByteArray),(Ln (J4g ws).1=Kgn ws∧0=Nc x.1∧Si 0 (B0=Jb∧Sf Vh (Sf Vh (B0=Jb∧false=x.2.1.2∧Si 0 (Uz ws=(Uq (ws,false)).1∧Sf Vh (B0=Jb∧(Kd9 ws).1=J0g ws∧(Kd8 ws).1=Knr ws∧(Kd7 ws).1=Knp ws∧(Kd7 ws).2=Knq ws∧List.length x.2.2=0∧(J4g ws).1=Z81 ws∧List.drop 1 (List.take (List.length ws) ws)=x.2.1.1))))))∧Kad x ws)))=_).mp ?_
 delta Z81 Z82 Yd J0g Uz F5 Knr Knq Knp Knm Vh J98 Di Kgn J91 K7t Jgz K7q Kf2 K5u Jhi K2x J4g Kea Kd9 Kd8 Kd7 Kdx Kdh Kc6 Kad Br Iw Bd Tw Sf Si Ln Nc B0 Lb
 intro h1 h2
 have hk0:Uo Jb=false:=by kernel_rfl
 have hB:=Dx (ws.getD 0 Jb)
 have hsz:∀k,k<ws.length→(ws.getD k Jb).size≤1000000:=fun k hk=>h2 _ (Je hk)
 refine⟨⟨fun h=> ?_,fun h=> ?_⟩,fun hc=>⟨fun _=>⟨rfl, ?_⟩,fun h=>(by cases h)⟩,fun hc=> ?_⟩
 ·have:=beq_eq_false_iff_ne.1 h;omega
 ·have:=beq_eq_false_iff_ne.1 h;omega
 ·have e:Uq (ws,false)=(Jb,[],true):=by rw[Ja2,show L4 (ws,false)=true from hc];rfl
  have e2:Um ws=(evz,false):=by unfold Um;rw[e,hk0];rfl
  rw[e2];exact⟨rfl,rfl⟩
 ·have hc':L4 (ws,false)=false:=hc
  have e:Uq (ws,false)=(ws.getD 0 Jb,ws.drop 1,false):=by rw[Ja2,hc'];rfl
  have hl:0<ws.length:=Jed hc'
  have eD:(Vv Sch.str (ws.getD 0 ({data:={toList:=[]}}:ByteArray)) L3).getD ([],0,none,none,none)=Jh (ws.getD 0 Jb):=rfl
  have eK:(Vv Sch.str (ws.getD 0 ({data:={toList:=[]}}:ByteArray)) L3).isSome=Uo (ws.getD 0 Jb):=rfl
  simp only[e,eD,eK]
  refine⟨by omega,by omega,fun hk=>⟨trivial, ?_⟩,fun hk=>⟨((0:Nat),(ws.drop 1,false),[]), ?_,⟨Nat.zero_le _,by simp only[List.length_drop];omega,fun w hw=>h2 w (List.mem_of_mem_drop hw),rfl,by unfold X1;rw[e];rfl⟩,fun(x:Nat×Tk×List ByteArray) hx=>⟨fun hlt=> ?_,fun hlt=> ?_⟩⟩⟩
  ·have hk:Uo (ws.getD 0 Jb)=false:=by simpa using hk
   have e2:Um ws=(evz,false):=by unfold Um;rw[e,hk];rfl
   rw[e2];exact⟨rfl,rfl⟩
  ·rw[List.take_length]
   repeat' first|exact rfl|exact⟨⟩|apply And.intro|omega|dsimp only;omega
  ·obtain⟨i,⟨rem,b⟩,o⟩:=x
   obtain⟨i1,i2,i3,i4,i5⟩:=hx
   have hlt:i<(Jh (ws.getD 0 Jb)).1.length:=by simpa using hlt
   dsimp only at i1 i2 i3 i4 i5
   have hn:(Jh (ws.getD 0 Jb)).1.length-i=((Jh (ws.getD 0 Jb)).1.length-(i+1))+1:=by omega
   rw[hn,Vx,Ja2] at i5
   refine⟨⟨fun h=> ?_,fun h=> ?_⟩,fun h=> ?_,fun h=> ?_⟩
   ·have:=beq_eq_false_iff_ne.1 h;(first|omega|dsimp only;omega)
   ·have:=beq_eq_false_iff_ne.1 h;(first|omega|dsimp only;omega)
   ·have h:L4 (rem,b)=true:=h
    rw[h,cond_true] at i5
    refine⟨by(first|omega|dsimp only;omega),by(dsimp only;omega),(i+1,([],true),o++[Jb]), ?_,⟨by(first|omega|dsimp only;omega),by simp,fun w hw=>(by cases hw),by simp[i4],i5⟩,by(first|omega|dsimp only;omega)⟩
    repeat' first|exact rfl|exact⟨⟩|apply And.intro|omega|dsimp only;omega
   ·have h:L4 (rem,b)=false:=h
    have hr:0<rem.length:=Jed h
    rw[h,cond_false] at i5
    refine⟨by(dsimp only;omega),by(dsimp only;omega),by(first|omega|dsimp only;omega),by(dsimp only;omega),(i+1,(rem.drop 1,b),o++[rem.getD 0 Jb]), ?_,⟨by(first|omega|dsimp only;omega),by simp only[List.length_drop];omega,fun w hw=>i3 w (List.mem_of_mem_drop hw),by simp[i4],i5⟩,by(first|omega|dsimp only;omega)⟩
    dsimp only
    rw[List.take_length]
    repeat' first|exact rfl|exact⟨⟩|apply And.intro|omega|dsimp only;omega
  ·obtain⟨i,⟨rem,b⟩,o⟩:=x
   obtain⟨i1,i2,i3,i4,i5⟩:=hx
   have hlt:¬i<(Jh (ws.getD 0 Jb)).1.length:=by simpa using hlt
   dsimp only at i1 i2 i3 i4 i5
   have hn:(Jh (ws.getD 0 Jb)).1.length-i=0:=by omega
   rw[hn,Vx] at i5
   have eN:(X1 ws).1=o:=by rw[←i5]
   have eT:(X1 ws).2=(rem,b):=by rw[←i5]
   simp only[eN]
   refine⟨((0:Nat),(rem,b),[]), ?_,⟨Nat.zero_le _,i2,i3,rfl,by unfold Jbb;rw[e,eT];rfl⟩,fun(x:Nat×Tk×List Int) hx=>⟨fun hlt=> ?_,fun hlt=> ?_⟩⟩
   ·repeat' first|exact rfl|exact⟨⟩|apply And.intro|omega|dsimp only;omega
   ·obtain⟨j,⟨rem,b⟩,o2⟩:=x
    obtain⟨j1,j2,j3,j4,j5⟩:=hx
    have hlt:(j:Int)<(Jh (ws.getD 0 Jb)).2.1:=of_decide_eq_true hlt
    dsimp only at j1 j2 j3 j4 j5
    have hn:(Jh (ws.getD 0 Jb)).2.1.toNat-j=((Jh (ws.getD 0 Jb)).2.1.toNat-(j+1))+1:=by omega
    rw[hn,Yx,Jdq,Ja2] at j5
    refine⟨⟨fun h=> ?_,fun h=> ?_⟩,fun h=> ?_,fun h=> ?_⟩
    ·have:=beq_eq_false_iff_ne.1 h;(first|omega|dsimp only;omega)
    ·have:=beq_eq_false_iff_ne.1 h;(first|omega|dsimp only;omega)
    ·have h:L4 (rem,b)=true:=h
     rw[h,cond_true] at j5
     refine⟨by decide,by(first|omega|dsimp only;omega),by(dsimp only;omega),(j+1,([],true),o2++[(Jl Jb).1]), ?_,⟨by(first|omega|dsimp only;omega),by simp,fun w hw=>(by cases hw),by simp[j4],j5⟩,by(first|omega|dsimp only;omega)⟩
     repeat' first|exact rfl|exact⟨⟩|apply And.intro|omega|dsimp only;omega
    ·have h:L4 (rem,b)=false:=h
     have hr:0<rem.length:=Jed h
     rw[h,cond_false] at j5
     refine⟨by(dsimp only;omega),by(dsimp only;omega),j3 _ (Je hr),by(first|omega|dsimp only;omega),by(dsimp only;omega),(j+1,(rem.drop 1,bif b then true else !(Jl (rem.getD 0 Jb)).2),o2++[(Jl (rem.getD 0 Jb)).1]), ?_,⟨by(first|omega|dsimp only;omega),by simp only[List.length_drop];omega,fun w hw=>j3 w (List.mem_of_mem_drop hw),by simp[j4],j5⟩,by(first|omega|dsimp only;omega)⟩
     dsimp only
     rw[List.take_length]
     repeat' first|exact rfl|exact⟨⟩|apply And.intro|omega|dsimp only;omega
   ·obtain⟨j,⟨rem2,b2⟩,o2⟩:=x
    obtain⟨j1,j2,j3,j4,j5⟩:=hx
    have hlt:¬(j:Int)<(Jh (ws.getD 0 Jb)).2.1:=of_decide_eq_false hlt
    dsimp only at j1 j2 j3 j4 j5
    have hn:(Jh (ws.getD 0 Jb)).2.1.toNat-j=0:=by omega
    rw[hn,Yx] at j5
    have hk:Uo (ws.getD 0 Jb)=true:=by simpa using hk
    have e2:Um ws=((0,ws.getD 0 Jb,o,o2,Jb),bif !b2 then((rem2.length:Int)==0) else false):=by
     unfold Um
     rw[e,hk,cond_true,eN,←j5]
    rw[e2];exact⟨trivial,rfl,rfl⟩
abbrev K97:=K98.add Kxz
def H2 (c:UInt8):List UInt8→List UInt8
 |[]=>[]
 |b::r=>if b=c then[] else b::H2 c r
def Jay (c:UInt8):List UInt8→List UInt8
 |[]=>[]
 |b::r=>if b=c then r else Jay c r
def Jdu (c:UInt8):List UInt8→Bool
 |[]=>false
 |b::r=>if b=c then true else Jdu c r
theorem Jv0 (c:UInt8):∀l:List UInt8,Lib.cut l [c]=(H2 c l,Jay c l,Jdu c l)
 |[]=>rfl
 | b :: r => by
  have ih:=Jv0 c r
  have hg:=Lib.index_ge r [c]
  by_cases h:b=c
  ·subst h
   have e:Lib.index (b::r) [b]=0:=by simp[Lib.index,List.isPrefixOf]
   unfold Lib.cut H2 Jay Jdu
   rw[e,if_pos rfl,if_pos rfl,if_pos rfl]
   rfl
  ·have hp:[c].isPrefixOf (b::r)=false:=by
    have:¬c=b:=fun e=>h e.symm
    simp[List.isPrefixOf,this]
   have hi:Lib.index (b::r) [c]=if Lib.index r [c]== -1 then -1 else Lib.index r [c]+1:=by rw[Lib.index,hp];rfl
   unfold H2 Jay Jdu
   rw[if_neg h,if_neg h,if_neg h]
   unfold Lib.cut at ih⊢
   by_cases h1:Lib.index r [c]= -1
   ·have e2:Lib.index (b::r) [c]= -1:=by rw[hi,h1];rfl
    rw[h1,if_neg (by decide)] at ih
    rw[e2,if_neg (by decide)]
    simp only[Prod.mk.injEq] at ih⊢
    exact⟨by rw[←ih.1],ih.2⟩
   ·obtain⟨i,hj⟩:=Int.eq_ofNat_of_zero_le (by omega:0≤Lib.index r [c])
    have e2:Lib.index (b::r) [c]=((i+1:Nat):Int):=by rw[hi,if_neg (by simpa using h1),hj];rfl
    rw[hj,if_pos (by omega)] at ih
    rw[e2,if_pos (by omega)]
    simp only[Prod.mk.injEq,Int.toNat_natCast,List.length_singleton] at ih⊢
    exact⟨by rw[List.take_succ_cons,ih.1],by rw[←ih.2.1];rfl,ih.2.2⟩
theorem Jef (c:UInt8):∀l:List UInt8,(H2 c l).length≤l.length
 |[]=>Nat.le_refl _
 |b::r=>by
  have:=Jef c r
  unfold H2
  split<;>simp only[List.length_cons,List.length_nil]<;>omega
theorem Jbt (c:UInt8):∀l:List UInt8,(Jay c l).length≤l.length
 |[]=>Nat.le_refl _
 |b::r=>by
  have:=Jbt c r
  unfold Jay
  split<;>simp only[List.length_cons]<;>omega
theorem Jwy (s:ByteArray) (c:UInt8):Jzt s ⟨⟨[c]⟩⟩=(bs (H2 c s.data.toList),bs (Jay c s.data.toList),Jdu c s.data.toList):=by
 unfold Jzt
 rw[show((⟨⟨[c]⟩⟩:ByteArray).data.toList)=[c] from rfl,Jv0]
 rfl
theorem Jlb (s:ByteArray):Za s ⟨⟨[32]⟩⟩=Jj s 32:=F6 s 32
def J5 (s:ByteArray):ByteArray:=bs (s.data.toList.take (s.size-8))
def Jb8 (s:ByteArray):ByteArray:=bs (s.data.toList.drop (s.size-7))
def Jap (b:ByteArray):ByteArray:=bs (H2 32 b.data.toList)
def Zy (b:ByteArray):ByteArray:=bs (Jay 32 b.data.toList)
def evX (b:ByteArray):Ev:=((Jl (Jap b)).1,(Um (Jj (Zy b) 32)).1.2)
def okX (b:ByteArray):Bool:=bif bif !(Jl (Jap b)).2 then true else !(Um (Jj (Zy b) 32)).2 then true else Jd (evX b) !=0
def Jc8 (s:ByteArray):Bool:=bif bif decide ((s.size:Int)-7-1<0) then true else((s.data.toList.getD (s.size-8) 0).toNat:Int) !=35 then true else !Jqn (Jb8 s)
def Kd (s:ByteArray):Ev×Int:=bif Jc8 s then(evz,25) else bif !((Jgr (J5 s)).toList==(Jb8 s).toList) then(evz,27) else bif okX (J5 s) then(evz,25) else(evX (J5 s),0)
def Uk (s:ByteArray) (k:Int):Ev×Int:=if(Kd s).2=0 then((Kd s).1,bif (Kd s).1.1 !=k then 11 else 0) else Kd s
def Kji:Con:={args:=[aS,aI],ress:=[(true,sEv),I],owns:=[],pre:=fun(s,_)=>[s.size≤1000000],spec:=fun(s,k,_)=>((Uk s k).1,(Uk s k).2,())}
theorem Jk9 (t:Tk):((Uq t).1=Jb∨(Uq t).1∈t.1)∧∀w∈(Uq t).2.1,w∈t.1:=by
 rw[Ja2]
 cases h:L4 t with
 |true=>exact⟨.inl rfl,fun w hw=>by cases hw⟩
 |false=>exact⟨.inr (Je (Jed h)),fun w hw=>List.mem_of_mem_drop hw⟩
theorem Jht:∀(n:Nat) (t:Tk) (o:List ByteArray),(Vx n t o).1.length=o.length+n
 |0,_,_=>rfl
 |n+1,t,o=>by
  rw[Vx,Jht n]
  simp only[List.length_append,List.length_singleton]
  omega
theorem Jhs:∀(n:Nat) (t:Tk) (o:List ByteArray),∀s∈(Vx n t o).1,s∈o∨s=Jb∨s∈t.1
 |0,_,_,s,h=> .inl h
 | n + 1, t, o, s, h => by
  have hs:=Jk9 t
  rw[Vx] at h
  rcases Jhs n _ _ s h with h|h|h
  ·rcases List.mem_append.1 h with h|h
   ·exact .inl h
   ·rw[List.mem_singleton.1 h]
    exact .inr hs.1
  ·exact .inr (.inl h)
  ·exact .inr (.inr (hs.2 _ h))
theorem Jhq:∀(n:Nat) (t:Tk) (o:List Int),(Yx n t o).1.length=o.length+n
 |0,_,_=>rfl
 |n+1,t,o=>by
  rw[Yx,Jhq n]
  simp only[List.length_append,List.length_singleton]
  omega
theorem Jd3 {ws:List ByteArray} (hw:∀w∈ws,w.size≤1000000):(Um ws).1.2.2.1.length≤3∧(Um ws).1.2.2.2.1.length≤4∧∀s∈(Um ws).1.2.2.1,s.size≤1000000:=by
 have hB:=Dx (Uq (ws,false)).1
 have hs:=Jk9 (ws,false)
 unfold Um
 cases Uo (Uq (ws,false)).1 with
 |false=>exact⟨Nat.zero_le _,Nat.zero_le _,fun s h=>by cases h⟩
 | true =>
  simp only[cond_true]
  refine⟨?_, ?_,fun s h=> ?_⟩
  ·unfold X1;rw[Jht];simp;omega
  ·unfold Jbb;rw[Jhq];simp;omega
  ·rcases Jhs _ _ _ s h with h|h|h
   ·cases h
   ·rw[h];decide
   ·exact hw _ (hs.2 _ h)
theorem Fa {s:ByteArray} {k:Int} {x:Ev×Int} (h:Kd s=x) (hx:x.2≠0):Uk s k=x:=by
 unfold Uk;rw[h,if_neg hx]
def J3b (a:Bt):=Nc (ByteArray.size a)-(7:Int)-1
def Kgo (a:Bt):=J3b a+1
def K7z (a:Bt):=decide (J3b a<0)
def Ksz (a:Bt):=ByteArray.extract a 0 (Int.toNat (J3b a))
def Ksf (a:Bt):=ByteArray.extract a (Int.toNat (Kgo a)) (ByteArray.size a)
def K6v (a:Bt):=ByteArray.size (Ksz a)≤1000000
def K58 (a:Bt) (b:Int):=Di=(Uk a b).1∧25=(Uk a b).2
def K43 (a:Bt):=Jzt (Ksz a) H6
def K4x (a:Bt):=(K43 a).1
def K4m (a:Bt):=(K43 a).2.1
def K3l (a:Bt):=Jl (K4x a)
def K3i (a:Bt):=(K3l a).1
def K21 (a:Bt):=(0:Int)≤0∧0≤J3b a∧J3b a≤Nc (ByteArray.size a)
def Kph (a:Bt):=Za (K4m a) H6
def K11 (a:Bt):=Um (Kph a)
def K1y (a:Bt):=0≤Kgo a∧Kgo a≤Nc (ByteArray.size a)∧Nc (ByteArray.size a)≤Nc (ByteArray.size a)
def K1w (a:Bt):=(K11 a).1.2
def Kk4 (a:Bt):=(K1w a).2
def K1p (a:Bt):=(Kk4 a).2
def K0q (a:Bt):=bif K7z a then true else Nc (UInt8.toNat (Gt (Z11 a) (J3b a) 0)) !=35
def Kom (a:Bt):=K0q a=false
def Kd4 (a:Bt):=bif !(K3l a).2 then true else !(K11 a).2
def J4d (a:Bt):=Kd4 a=false
def Kcs (a:Bt):=(K3i a,(K1w a).1,(Kk4 a).1,E2 (K1p a))
theorem Kx9:Ok Tryz.prog 108 Kji:=okW K97 Tryz.f108 na fun xx=>by
 obtain⟨(s:ByteArray),(k:Int),_⟩:=xx
 refine(by kernel_rfl:(ByteArray.size s≤1000000→(Iw (Nc (ByteArray.size s)-7)∧Iw (J3b s))∧((K7z s=false→Bd (J3b s) (Nc (ByteArray.size s)))∧(Kom s→Iw (Kgo s))∧(Kom s→K1y s)∧(Kom s→ByteArray.size (Ksf s)≤1000000))∧Br (bif K0q s then true else !Jqn (Ksf s)) (K58 s k) ((K21 s∧K6v s∧Iw (Kgo s)∧K1y s)∧Br (!Lb (Jgr (Ksz s)) (Ksf s)) (Di=(Uk s k).1∧27=(Uk s k).2) ((K21 s∧K6v s)∧ByteArray.size (K4x s)≤1000000∧(ByteArray.size (K4m s)≤1000000∧1≤1∧List.length (Kph s)≤1000000∧∀(w:ByteArray),w∈Kph s→ByteArray.size w≤1000000)∧((J4d s→List.length (Kk4 s).1≤1000000)∧(J4d s→List.length (K1p s).1≤1000000)∧(J4d s→∀(s_1:ByteArray),s_1∈(Kk4 s).1→ByteArray.size s_1≤1000000))∧Br (bif Kd4 s then true else Jd (Kcs s) !=0) (K58 s k) (Kcs s=(Uk s k).1∧(bif K3i s !=k then 11 else 0)=(Uk s k).2))))=_).mp ?_
 delta Z11 H6 J3b Di Kgo K7z Ksz Ksf K6v K58 K43 K4x K4m K3l K3i K21 Kph K11 K1y K1w Kk4 K1p K0q Kom Kd4 J4d Kcs Br Iw Bd Nc Gt B0 Lb E2
 intro hs
 have hl:s.data.toList.length=s.size:=by simp
 by_cases hq:s.size<8
 ·have hd:decide ((s.size:Int)-7-1<0)=true:=decide_eq_true (by omega)
  have h0:Kd s=(evz,25):=by unfold Kd Jc8;rw[hd];rfl
  rw[Fa h0 (by decide)]
  simp only[hd,cond_true]
  exact⟨by omega,⟨⟨fun h=>(by cases h),fun h=>(by cases h),fun h=>(by cases h),fun h=>(by cases h)⟩,fun _=>by(repeat' first|exact rfl|exact⟨⟩|apply And.intro|omega|dsimp only;omega),fun h=>(by cases h)⟩⟩
 ·have e1:((s.size:Int)-7-1).toNat=s.size-8:=by omega
  have e2:((s.size:Int)-7-1+1).toNat=s.size-7:=by omega
  have e3:s.extract 0 (s.size-8)=J5 s:=Jqk s _
  have e4:s.extract (s.size-7) s.size=Jb8 s:=Jea s _
  have hbl:(J5 s).data.toList.length=s.size-8:=by unfold J5;simp[bs]
  have hbs:(J5 s).size=s.size-8:=by unfold J5;rw[Va];simp
  have hts:(Jb8 s).size≤1000000:=by unfold Jb8;rw[Va];simp;omega
  have hd:decide ((s.size:Int)-7-1<0)=false:=decide_eq_false (by omega)
  simp only[e1,e2,e3,e4,Jwy,Jlb]
  have hsh:Jc8 s=bif bif decide ((s.size:Int)-7-1<0) then true else((s.data.toList.getD (s.size-8) 0).toNat:Int) !=35 then true else !Jqn (Jb8 s):=rfl
  rw[←hsh]
  have hA:(bs (H2 32 (J5 s).data.toList)).size≤1000000:=by rw[Va];have:=Jef 32 (J5 s).data.toList;omega
  have hZ:(bs (Jay 32 (J5 s).data.toList)).size≤1000000:=by rw[Va];have:=Jbt 32 (J5 s).data.toList;omega
  have hW:∀w∈Jj (bs (Jay 32 (J5 s).data.toList)) 32,w.size≤1000000:=by
   intro w hw
   obtain⟨v,hv,rfl⟩:=List.mem_map.1 hw
   have:=Lu _ _ _ hv
   have h3:=Jbt 32 (J5 s).data.toList
   have h4:(bs (Jay 32 (J5 s).data.toList)).data.toList.length=(Jay 32 (J5 s).data.toList).length:=rfl
   rw[Va]
   omega
  refine⟨by omega,⟨fun _=>by omega,fun _=>by omega,fun _=>by omega,fun _=>hts⟩,fun h=> ?_,fun h=>⟨⟨by omega,by omega,by omega,by omega⟩,fun h2=> ?_,fun h2=>⟨⟨by omega,by omega⟩,hA,⟨hZ,by decide, ?_, ?_⟩, ?_⟩⟩⟩
  ·have h0:Kd s=(evz,25):=by unfold Kd;rw[h];rfl
   rw[Fa h0 (by decide)];exact⟨rfl,rfl⟩
  ·have h0:Kd s=(evz,27):=by unfold Kd;rw[h,h2];rfl
   rw[Fa h0 (by decide)];exact⟨rfl,rfl⟩
  ·unfold Jj
   rw[List.length_map]
   have:=Ja6 (UInt8.ofNat (32:Int).toNat) (bs (Jay 32 (J5 s).data.toList)).data.toList
   have h3:=Jbt 32 (J5 s).data.toList
   have h4:(bs (Jay 32 (J5 s).data.toList)).data.toList.length=(Jay 32 (J5 s).data.toList).length:=rfl
   omega
  ·exact hW
  ·have hr:=Jd3 (ws:=Jj (bs (Jay 32 (J5 s).data.toList)) 32) hW
   refine⟨⟨fun _=>Nat.le_trans hr.1 (by decide),fun _=>Nat.le_trans hr.2.1 (by decide),fun _=>hr.2.2⟩,fun h3=> ?_,fun h3=> ?_⟩
   ·have h3:okX (J5 s)=true:=h3
    have h0:Kd s=(evz,25):=by unfold Kd;rw[h,h2,h3];rfl
    rw[Fa h0 (by decide)];exact⟨rfl,rfl⟩
   ·have h3:okX (J5 s)=false:=h3
    have h0:Kd s=(evX (J5 s),0):=by unfold Kd;rw[h,h2,h3];rfl
    have h4:Uk s k=(evX (J5 s),bif (evX (J5 s)).1 !=k then 11 else 0):=by unfold Uk;rw[h0];rfl
    rw[h4]
    exact⟨rfl,rfl⟩
abbrev K96:=K97.add Kx9
def Jlp:Nat→List UInt8→Int→List Ev→List Ev×Int×Int
 |0,_,at_,o=>(o,at_,0)
 |f+1,l,at_,o=>
  if l=[] then(o,at_,0) else
  if Jdu 10 l=false then(o,at_,28) else
  if(Uk (bs (H2 10 l)) (o.length+1)).2≠0 then(o,at_,(Uk (bs (H2 10 l)) (o.length+1)).2) else
  Jlp f (Jay 10 l) (at_+((H2 10 l).length+1)) (o++[(Uk (bs (H2 10 l)) (o.length+1)).1])
def Jc (s:ByteArray):List Ev×Int×Int:=if 1000000<s.size then([],0,26) else Jlp s.size s.data.toList 0 []
def J2e:Con:={args:=[aS],ress:=[(false, .list 67 sEv),I,I],owns:=[],pre:=fun _=>[],spec:=fun(s,_)=>((Jc s).1,(Jc s).2.1,(Jc s).2.2,())}
abbrev Kj5 (s:ByteArray):Ann:={X:=Nat×List Ev,σ:=fun(k,o)=>⟨1,[(0, .one (.str s)),(5, .one (.sl 0)),(6, .one (.int .i64 k))],[(0, .own 67 sEv o)]⟩,inv:=fun(k,o)=>k≤s.size∧s.size≤1000000∧o.length≤1000∧∃f,s.size-k≤f∧Jlp f (s.data.toList.drop k) k o=Jc s,mu:=fun(k,_)=>s.size-k}
theorem Jkg (c:UInt8):∀{l:List UInt8},Jdu c l=true→l=H2 c l++c::Jay c l
 |[],h=>by cases h
 | b :: r, h => by
  unfold Jdu at h
  unfold H2 Jay
  by_cases q:b=c
  ·rw[if_pos q,if_pos q,q];rfl
  ·rw[if_neg q] at h
   rw[if_neg q,if_neg q,List.cons_append,←Jkg c h]
theorem Jbo {s:ByteArray} {k:Int} (h:(Uk s k).2=0):Jd (Uk s k).1=0∧(Uk s k).1.1=k:=by
 have h0:(Kd s).2=0:=by
  unfold Uk at h
  by_cases q:(Kd s).2=0
  ·exact q
  ·rw[if_neg q] at h;exact h
 have e:Uk s k=((Kd s).1,bif (Kd s).1.1 !=k then 11 else 0):=by unfold Uk;rw[if_pos h0]
 rw[e] at h⊢
 refine⟨?_, ?_⟩
 ·unfold Kd at h0⊢
  cases h1:Jc8 s with
  |true=>rw[h1] at h0;cases h0
  | false =>
   rw[h1,cond_false] at h0
   rw[cond_false]
   cases h2: !((Jgr (J5 s)).toList==(Jb8 s).toList) with
   |true=>rw[h2] at h0;cases h0
   | false =>
    rw[h2,cond_false] at h0
    rw[cond_false]
    cases h3:okX (J5 s) with
    |true=>rw[h3] at h0;cases h0
    | false =>
     rw[cond_false]
     unfold okX at h3
     cases h4:(bif !(Jl (Jap (J5 s))).2 then true else !(Um (Jj (Zy (J5 s)) 32)).2) with
     |true=>rw[h4] at h3;cases h3
     |false=>
      rw[h4,cond_false] at h3
      exact bne_eq_false_iff_eq.1 h3
 ·have h:(bif (Kd s).1.1 !=k then(11:Int) else 0)=0:=h
  cases h5:((Kd s).1.1 !=k) with
  |true=>rw[h5] at h;cases h
  |false=>exact bne_eq_false_iff_eq.1 h5
def Ksu (a:Bt) (b:Nat×List Ev):=Jzt (ByteArray.extract a b.1 (ByteArray.size a)) (ByteArray.mk (Array.mk [10]))
def K68 (a:Bt) (b:Nat×List Ev):=ByteArray.size (Ksu a b).1
def Kru (a:Bt):=[]=(Jc a).1∧0=(Jc a).2.1∧26=(Jc a).2.2
def K6c (a:Bt) (b:Nat×List Ev):=Nc (K68 a b)+1
def K5p (a:Bt) (b:Nat×List Ev):=Uk (Ksu a b).1 (Ln b.2+1)
def K5k (a:Bt) (b:Nat×List Ev):=(K5p a b).2
def K5j (a:Bt) (b:Nat×List Ev):=(K5p a b).1
def K5b (a:Nat×List Ev) (b:Bt):=Nc a.1+K6c b a
def K5a (a:Bt) (b:Nat×List Ev):=(K5j a b).2
def K46 (a:Bt) (b:Nat×List Ev):=(K5a a b).2
def Koz (a:Nat×List Ev) (b:Bt):=a.1≤ByteArray.size b∧ByteArray.size b≤1000000∧List.length a.2≤1000∧∃(f:Nat),ByteArray.size b-a.1≤f∧Jlp f (List.drop a.1 (Z11 b)) (Nc a.1) a.2=Jc b
theorem Ucm:Ok Tryz.prog 34 J2e:=okW K96 Tryz.f34 (fun xx=>Y4 (Kj5 xx.1)) fun xx=>by
 obtain⟨(s:ByteArray),_⟩:=xx
 refine(by kernel_rfl:(Br (decide (1000000<Nc (ByteArray.size s))) (Kru s) (∃(x:Nat×List Ev),Sf s (0=Nc x.1∧List.length x.2=0)∧Koz x s∧∀(x:Nat×List Ev),Koz x s→Br (decide (Nc x.1<Nc (ByteArray.size s))) (((0≤Nc x.1∧Nc x.1≤Nc (ByteArray.size s)∧Nc (ByteArray.size s)≤Nc (ByteArray.size s))∧ByteArray.size (ByteArray.extract s x.1 (ByteArray.size s))≤1000000)∧Br (!(Ksu s x).2.2) (x.2=(Jc s).1∧Nc x.1=(Jc s).2.1∧28=(Jc s).2.2) ((Iw (Ln x.2+1)∧K68 s x≤1000000)∧Br (K5k s x !=0) (x.2=(Jc s).1∧Nc x.1=(Jc s).2.1∧K5k s x=(Jc s).2.2) ((List.length x.2+1)*88≤140737488355328∧(Iw (K6c s x)∧Iw (K5b x s))∧∃(y:Nat×List Ev),Sf s (K5b x s=Nc y.1∧x.2++[((K5j s x).1,(K5a s x).1,(K46 s x).1,E2 (K46 s x).2)]=y.2)∧Koz y s∧ByteArray.size s-y.1<ByteArray.size s-x.1))) (x.2=(Jc s).1∧Nc x.1=(Jc s).2.1∧0=(Jc s).2.2)))=_).mp ?_
 delta Z11 Ksu K68 Kru K6c K5p K5k K5j K5b K5a K46 Koz Br Iw Sf Ln Nc E2
 refine⟨fun h=> ?_,fun h=> ?_⟩
 ·have h:1000000<s.size:=by have:=of_decide_eq_true h;omega
  unfold Jc;rw[if_pos h];exact⟨rfl,rfl,rfl⟩
 have hs:¬1000000<s.size:=by have:=of_decide_eq_false h;omega
 have hl:s.data.toList.length=s.size:=by simp
 refine⟨((0:Nat),[]),by simp,⟨Nat.zero_le _,by(first|omega|dsimp only;omega),Nat.zero_le _,⟨s.size,by omega,by unfold Jc;rw[if_neg hs];rfl⟩⟩,fun(x:Nat×List Ev) hx=>⟨fun hlt=> ?_,fun hlt=> ?_⟩⟩
 ·obtain⟨k,o⟩:=x
  obtain⟨k1,k2,k3,f,kf,k4⟩:=hx
  have hlt:k<s.size:=by simpa using hlt
  dsimp only at k1 k3
  dsimp only at kf
  have hf:f=(f-1)+1:=by omega
  have hne:s.data.toList.drop k≠[]:=by
   intro h
   have:=congrArg List.length h
   rw[List.length_drop,hl] at this
   simp at this;omega
  rw[hf,Jlp,if_neg hne] at k4
  have e0:s.extract k s.size=bs (s.data.toList.drop k):=Jea s k
  have e1:((k:Int)).toNat=k:=Int.toNat_natCast k
  simp only[e1,e0,Jwy]
  have k4:(if Jdu 10 (s.data.toList.drop k)=false then(o,(k:Int),(28:Int)) else if(Uk (bs (H2 10 (s.data.toList.drop k))) (o.length+1)).2≠0 then(o,(k:Int),(Uk (bs (H2 10 (s.data.toList.drop k))) (o.length+1)).2) else Jlp (f-1) (Jay 10 (s.data.toList.drop k)) (k+((H2 10 (s.data.toList.drop k)).length+1)) (o++[(Uk (bs (H2 10 (s.data.toList.drop k))) (o.length+1)).1]))=Jc s:=k4
  have hA:=Jef 10 (s.data.toList.drop k)
  rw[List.length_drop,hl] at hA
  have hbd:∀l,(bs l).data.toList=l:=fun l=>rfl
  simp only[hbd,Va,List.length_drop,hl]
  refine⟨by omega,fun h=> ?_,fun h=>⟨⟨by omega,by omega⟩,fun h2=> ?_,fun h2=> ?_⟩⟩
  ·have h:Jdu 10 (s.data.toList.drop k)=false:=by simpa using h
   rw[if_pos h] at k4
   rw[←k4];exact⟨rfl,rfl,rfl⟩
  ·have h:Jdu 10 (s.data.toList.drop k)=true:=by simpa using h
   have h2:(Uk (bs (H2 10 (s.data.toList.drop k))) (o.length+1)).2≠0:=bne_iff_ne.1 h2
   rw[if_neg (by rw[h];decide),if_pos h2] at k4
   rw[←k4];exact⟨rfl,rfl,rfl⟩
  ·have h:Jdu 10 (s.data.toList.drop k)=true:=by simpa using h
   have h2:(Uk (bs (H2 10 (s.data.toList.drop k))) (o.length+1)).2=0:=bne_eq_false_iff_eq.1 h2
   rw[if_neg (by rw[h];decide),if_neg (by rw[h2];simp)] at k4
   have hc:=Jkg 10 h
   have hlc:=congrArg List.length hc
   rw[List.length_drop,hl,List.length_append,List.length_cons] at hlc
   have hd:s.data.toList.drop (k+((H2 10 (s.data.toList.drop k)).length+1))=Jay 10 (s.data.toList.drop k):=by
    rw[←List.drop_drop]
    have:=congrArg (List.drop ((H2 10 (s.data.toList.drop k)).length+1)) hc
    rw[this,show(H2 10 (s.data.toList.drop k)).length+1=(H2 10 (s.data.toList.drop k)).length+1 from rfl]
    simp[List.drop_append]
   have hn:=(Jbo h2)
   have hnum:=Yq.1 (show Kr (Uk (bs (H2 10 (s.data.toList.drop k))) (o.length+1)).1.1 1 1000=0 by
    have:=(K1 hn.1).num
    exact Yq.2 this)
   rw[hn.2] at hnum
   refine⟨by omega,by omega,(k+((H2 10 (s.data.toList.drop k)).length+1),o++[(Uk (bs (H2 10 (s.data.toList.drop k))) (o.length+1)).1]),by simp,⟨by(first|omega|dsimp only;omega),k2,by simp only[List.length_append,List.length_singleton];omega,f-1,by(first|omega|dsimp only;omega), ?_⟩,by(first|omega|dsimp only;omega)⟩
   dsimp only
   rw[hd]
   exact k4
 ·obtain⟨k,o⟩:=x
  obtain⟨k1,k2,k3,f,kf,k4⟩:=hx
  have hlt:¬k<s.size:=by simpa using hlt
  dsimp only at k1 k3
  have e:s.data.toList.drop k=[]:=List.drop_eq_nil_of_le (by omega)
  have k4:Jlp f (s.data.toList.drop k) k o=Jc s:=k4
  rw[e] at k4
  have k5:(o,(k:Int),(0:Int))=Jc s:=by
   rw[←k4]
   cases f<;>rfl
  rw[←k5]
  exact⟨rfl,rfl,rfl⟩
abbrev Ueg:=K96.add Ucm
theorem Jbi (n:Int) (h0: -9223372036854775808≤n) (h1:n≤9223372036854775807):(Ux n).size≤40:=by
 have:=Lib.itoa_length_le n h0 h1
 have e:(Ux n).size=(Lib.itoa n).length:=rfl
 omega
theorem Khl {l:List Nat} {b:Nat} (h:∀x∈l,x≤b):l.sum≤b*l.length:=by
 induction l with
 |nil=>simp
 |cons x l ih=>
  have h1:=h x (List.mem_cons_self ..)
  have h2:=ih fun y hy=>h y (List.mem_cons_of_mem _ hy)
  rw[List.sum_cons,List.length_cons,Nat.mul_succ]
  omega
theorem Jjt {s:ByteArray} (h:Ys s=true):s.size≤24:=by
 unfold Ys at h
 simp only[Bool.and_eq_true,decide_eq_true_eq] at h
 omega
theorem J7g {k:ByteArray} (h:Uo k=true):k.size≤7:=by
 rcases Vl h with h|h|h|h|h|h|h|h|h|h|h<;>subst h<;>decide
theorem Jxq {e:Ev} (h:Jd e=0):Xb e:=by
 have hE:=K1 h
 have hk:=Dx e.2.1
 have h1:=hE.num
 have h2:=hE.nn
 have h3:=hE.nv
 have h4:=J7g hE.kind
 refine⟨by omega,by omega,by omega,fun v hv=>by have:=hE.val v hv;omega, ?_⟩
 refine Nat.le_trans (Khl (b:=41) fun x hx=> ?_) ?_
 ·obtain⟨s,hs,rfl⟩:=List.mem_map.1 hx
  rcases List.mem_cons.1 hs with rfl|hs
  ·have:=Jbi e.1 (by omega) (by omega);omega
  rcases List.mem_cons.1 hs with rfl|hs
  ·omega
  rcases List.mem_append.1 hs with hs|hs
  ·have:=Jjt (hE.name s hs);omega
  ·obtain⟨v,hv,rfl⟩:=List.mem_map.1 hs
   have:=hE.val v hv
   have:=Jbi v (by omega) (by omega);omega
 ·unfold Dh
  simp only[List.length_map,List.length_cons,List.length_append]
  omega
theorem Jlo {e:Ev} (h:Xb e):(Jtq e).size=(V7 e).size+9:=by
 have h2:=Jes (V7 e)
 unfold Jtq
 rw[Va]
 simp[h2]
theorem Jpz:∀(f:Nat) (l:List UInt8) (a:Int) (o:List Ev),o.length≤1000→(Jlp f l a o).1.length≤1000
 |0,_,_,_,h=>h
 | f + 1, l, a, o, h => by
  unfold Jlp
  split
  ·exact h
  split
  ·exact h
  split
  ·exact h
  ·rename_i q
   have q:(Uk (bs (H2 10 l)) (o.length+1)).2=0:=Decidable.of_not_not q
   have hn:=Jbo q
   have hnum:=(K1 hn.1).num
   rw[hn.2] at hnum
   exact Jpz f _ _ _ (by simp only[List.length_append,List.length_singleton];omega)
theorem Je4 (s:ByteArray):(Jc s).1.length≤1000:=by
 unfold Jc
 split
 ·exact Nat.zero_le _
 ·exact Jpz _ _ _ _ (Nat.zero_le _)
abbrev K95:=Ueg
def Ky7:Con:={args:=[.val false (.list 67 sEv), .fn [(true,sEv)] tS],ress:=[(false, .list 9 .str)],owns:=[true],pre:=fun(l,(q,_),_)=>[l.length≤1000000,∀x∈l,Up (q (x,()))],spec:=fun(l,(_,f),_)=>(l.map fun x=>f (x,()),())}
def Z9 (a:Nat) (b:List Ev):=Bd (Nc a) (Ln b)
def Z38 (a:List Ev):=List.length a≤1000000
def Z97 (a:Nat) (b:List Ev):=decide (Nc a<Ln b)
def Jyj (a:List Ev) (b:Ev):=b∈a
def Kgl (a:Ev×Unit→Bt) (b:Nat) (c:List Ev):=List.map (fun(x:Ev)=>a (x,PUnit.unit)) (List.take b c)
def J5z (a:List Ev) (b:Nat):=List.getD a b Di
def J5y (a:List Ev) (b:Nat):=(J5z a b).1
def J5x (a:List Ev) (b:Nat):=(J5z a b).2.1
def Jz2 (a:List Ev) (b:Nat):=(J5z a b).2.2
def J25 (a:Nat) (b:List Ev) (c:Nat):=a≤List.length b∧List.length b-a<List.length b-c
def Jye (a:List Ev) (b:Nat):=(Jz2 a b).2
def Kf0 (a:List Ev) (b:Ev×Unit→List Prop):=∀(x:Ev),Jyj a x→Up (b (x,PUnit.unit))
def Jm4 (a:List Ev) (b:Nat):=(J5y a b,J5x a b,(Jz2 a b).1,E2 (Jye a b))
def Jpf (a:List Ev) (b:Nat):=(Jm4 a b,PUnit.unit)
def Jtl (a:Ev×Unit→List Prop) (b:List Ev) (c:Nat):=Up (a (Jpf b c))
theorem Kxv:Ok Tryz.prog 124 Ky7:=okW K95 Tryz.f124 (fun xx=>Y4 (Jbz 67 9 sEv xx.1 tS true xx.2.1.1 xx.2.1.2)) fun xx=>by
 obtain⟨(l:List Ev),⟨(q:Ev×Unit→List Prop),(f:Ev×Unit→ByteArray)⟩,_⟩:=xx
 refine(by kernel_rfl:(Z38 l→Kf0 l q→∃(x:Nat),Si (Ln l) (0=Nc x∧Sf l ((fun(x:Ev×PUnit)=>q x)=q∧(fun(x:Ev×PUnit)=>f x)=f∧List.length (Kgl f x l)=0))∧x≤List.length l∧∀(x:Nat),x≤List.length l→Br (Z97 x l) (Tw (Z9 x l)∧(Jtl q l x∧(List.length (Kgl f x l)+1)*16≤140737488355328)∧Z20 x∧∃(y:Nat),Si (Ln l) (Vm x y∧Sf l ((fun(x:Ev×PUnit)=>q x)=q∧(fun(x:Ev×PUnit)=>f x)=f∧Kgl f x l++[f (Jpf l x)]=Kgl f y l))∧J25 y l x) (Kgl f x l=List.map (fun(x:Ev)=>f (x,PUnit.unit)) l))=_).mp ?_
 delta Z9 Z20 Z38 Z97 Vm Jyj Di Kgl J5z J5y J5x Jz2 J25 Jye Kf0 Jm4 Jpf Jtl Br Iw Bd Tw Sf Si Ln Nc B0 E2
 intro hb hq
 refine⟨(0:Nat),⟨rfl,rfl,rfl,rfl,rfl,by simp⟩,Nat.zero_le _,fun(k:Nat) hk=>⟨fun h=> ?_,fun h=> ?_⟩⟩
 ·have hlt:k<l.length:=by simpa using h
  refine⟨by omega,⟨hq (l.getD k evz) (Je hlt),by simp only[List.length_map,List.length_take];omega⟩,by omega,(k+1:Nat),⟨rfl,by simp,rfl,rfl,rfl, ?_⟩,by omega,by omega⟩
  rw[←Km (d:=evz) hlt,List.map_append];rfl
 ·have hlt:¬k<l.length:=by simpa using h
  rw[List.take_of_length_le (by omega)]
abbrev K94:=K95.add Kxv
def cQ (pre:Reg→ByteArray→List Prop) (f:Reg→ByteArray→List ByteArray):Con:={args:=[Jb3,aS],ress:=[(false, .list 9 .str)],owns:=[true],pre:=fun(r,s,_)=>pre r s,spec:=fun(r,s,_)=>(f r s,())}
theorem Jxt {tk st:Int} {S:List Sta} {O:List Ord} {M:List Met} {X:List Out} {Q:List Per} {s:ByteArray} (hr:Jn (tk,st,S,O,M,X,Q)):∀(l:List Sta) (n:Int),n-3200000000*l.length≤Js5 st O M s l n∧Js5 st O M s l n≤n+3200000000*l.length
 |[],n=>by simp[Js5]
 | x :: l, n => by
  have hb:=Jkn (a:=s) (b:=x.1) hr
  have ih:=Jxt (s:=s) hr l (bif x.1.toList !=s.toList then n+Hp st O M s x.1 else n)
  have hd:n-3200000000≤(bif x.1.toList !=s.toList then n+Hp st O M s x.1 else n)∧(bif x.1.toList !=s.toList then n+Hp st O M s x.1 else n)≤n+3200000000:=by
   cases x.1.toList !=s.toList<;>simp only[cond_true,cond_false]<;>omega
  simp only[List.length_cons]
  unfold Js5
  omega
theorem Jo1 {tk st:Int} {S:List Sta} {O:List Ord} {M:List Met} {X:List Out} {Q:List Per} {s:ByteArray} (hr:Jn (tk,st,S,O,M,X,Q)): -19200000000≤Jo2 st S O M s∧Jo2 st S O M s≤19200000000:=by
 have h:=Jxt (s:=s) hr S 0
 have nS:S.length≤6:=hr.nS
 unfold Jo2
 omega
def Jzq:Reg→ByteArray→List ByteArray:=fun(_,st,S,O,M,_) s=>[Ux (Jo2 st S O M s)]
def Ky1:Con:=cQ (fun r _=>[Jn r]) Jzq
theorem Kv4:Ok Tryz.prog 195 Ky1:=okW K94 Tryz.f195 na fun xx=>by
 obtain⟨⟨(tk:Int),(st:Int),(S:List Sta),(O:List Ord),(M:List Met),(X:List Out),(Q:List Per)⟩,(s:ByteArray),_⟩:=xx
 refine(by kernel_rfl:(Ju tk st S O M X Q→(Ju tk st S O M X Q∧Iw (Jo2 st S O M s))∧[Ux (Jo2 st S O M s)]=Jzq (Z72 tk st S O M X Q) s)=_).mp ?_
 delta Z72 Ju Iw
 intro hr
 have hb:=Jo1 (s:=s) hr
 exact⟨⟨hr,by omega,by omega⟩,rfl⟩
abbrev K93:=K94.add Kv4
def Jg7:Reg→ByteArray→List ByteArray:=fun(_,_,S,_) s=>[Ux (Hm S s).2.2]
def Kir:Con:=cQ (fun r s=>[Jn r,0≤J6 r.2.2.1 s]) Jg7
theorem Kv3:Ok Tryz.prog 196 Kir:=okW K93 Tryz.f196 na fun xx=>by
 obtain⟨⟨(tk:Int),(st:Int),(S:List Sta),(O:List Ord),(M:List Met),(X:List Out),(Q:List Per)⟩,(s:ByteArray),_⟩:=xx
 refine(by kernel_rfl:(Ju tk st S O M X Q→Z26 S s→(Z62 S∧Z26 S s∧Iw (Hm S s).2.2)∧[Ux (Hm S s).2.2]=Jg7 (Z72 tk st S O M X Q) s)=_).mp ?_
 delta Z26 Z62 Z72 Ju Iw
 intro hr h
 have nS:S.length≤6:=hr.nS
 have hs:0≤(Hm S s).2.2∧(Hm S s).2.2≤1000:=(Jet hr.sta h).pri
 exact⟨⟨by omega,h,by omega,by omega⟩,rfl⟩
abbrev K92:=K93.add Kv3
def Jg8:Reg→ByteArray→List ByteArray:=fun(_,st,_,O,M,_) s=>[Ux (J0 st M (Xj O s)).2.1,Ux (J0 st M (Xj O s)).2.2.1,Ux (J0 st M (Xj O s)).2.2.2.1,Ux (J0 st M (Xj O s)).2.2.2.2.1,Ux (J0 st M (Xj O s)).2.2.2.2.2]
def Kit:Con:=cQ (fun r s=>[Jn r,0≤K0 r.2.2.2.1 s]) Jg8
def K2y (a:List Ord) (b:Bt):=((Xj a b).1,(Xj a b).2.1,(Xj a b).2.2.1,E2 (Xj a b).2.2.2.1,(Xj a b).2.2.2.2.1,E2 (Xj a b).2.2.2.2.2)
def K2p (a:Int) (b:List Met) (c:List Ord) (d:Bt):=(J0 a b (K2y c d)).2
def K2l (a:Int) (b:List Met) (c:List Ord) (d:Bt):=(K2p a b c d).1
def K2k (a:Int) (b:List Met) (c:List Ord) (d:Bt):=(K2p a b c d).2
def K2h (a:Int) (b:List Met) (c:List Ord) (d:Bt):=(K2k a b c d).2
def K2g (a:Int) (b:List Met) (c:List Ord) (d:Bt):=(K2k a b c d).1
def K2f (a:Int) (b:List Met) (c:List Ord) (d:Bt):=(K2h a b c d).1
def K2e (a:Int) (b:List Met) (c:List Ord) (d:Bt):=(K2h a b c d).2
def K2b (a:Int) (b:List Met) (c:List Ord) (d:Bt):=(K2e a b c d).2
def K2a (a:Int) (b:List Met) (c:List Ord) (d:Bt):=(K2e a b c d).1
theorem Kv2:Ok Tryz.prog 197 Kit:=okW K92 Tryz.f197 na fun xx=>by
 obtain⟨⟨(tk:Int),(st:Int),(S:List Sta),(O:List Ord),(M:List Met),(X:List Out),(Q:List Per)⟩,(s:ByteArray),_⟩:=xx
 refine(by kernel_rfl:(Ju tk st S O M X Q→0≤K0 O s→(Z64 O∧0≤K0 O s∧Ju tk st S O M X Q∧K2y O s∈O)∧(5≤1000000∧∀(x:Int),x∈[K2l st M O s,K2g st M O s,K2f st M O s,K2a st M O s,K2b st M O s]→Iw x)∧[Ux (K2l st M O s),Ux (K2g st M O s),Ux (K2f st M O s),Ux (K2a st M O s),Ux (K2b st M O s)]=Jg8 (Z72 tk st S O M X Q) s)=_).mp ?_
 delta Z64 Z72 Ju K2y K2p K2l K2k K2h K2g K2f K2e K2b K2a Iw E2
 intro hr h
 have nO:O.length≤32:=hr.nO
 have hm:=Jaj h
 have hb:=L0 hr hm
 simp only[Prod.eta]
 refine⟨⟨by omega,h,hr,hm⟩,⟨by decide,fun x hx=> ?_⟩,rfl⟩
 have b1:=hb.hours
 have b2:=hb.sent
 have b3:=hb.got
 have b4:=hb.money
 have b5:=hb.fine
 simp only[List.mem_cons,List.not_mem_nil,or_false] at hx
 rcases hx with rfl|rfl|rfl|rfl|rfl<;>omega
abbrev K91:=K92.add Kv2
def Hz:List Gap→List ByteArray→List ByteArray
 |[],o=>o
 |g::l,o=>Hz l (bif decide ((o.length:Int)<512) then o++[g.1,Ux g.2] else o)
def Jds:Reg→ByteArray→List ByteArray:=fun(tk,_,_,O,M,_) _=>Hz (J4 M tk O) []
def Kis:Con:=cQ (fun r _=>[Jn r]) Jds
abbrev J2r (L:List Gap):Ann:={X:=Nat×List ByteArray,σ:=fun(k,o)=>⟨2,[(5, .one (.sl 1)),(11, .one (.sl 0)),(12, .one (.int .i64 L.length)),(13, .one (.int .i64 k))],[(0, .own 200 J4v L),(1, .own 9 .str o)]⟩,inv:=fun(k,o)=>k≤L.length∧o.length≤600∧Hz (L.drop k) o=Hz L [],mu:=fun(k,_)=>L.length-k}
theorem Jl3 {M:List Met} {u:Int} {x:Ord}:∀(n:Nat) (h:Int),(Dg M u x h n).length≤n
 |0,_=>Nat.le_refl _
 |n+1,h=>by
  have:=Jl3 (M:=M) (u:=u) (x:=x) n (h+1)
  unfold Dg
  rw[List.length_append]
  cases Jr x h&&(decide (h<u)&&decide (K6 M x.1 h<0))<;>simp only[cond_true,cond_false,List.length_singleton,List.length_nil]<;>omega
theorem Jfi {S:List Sta} {M:List Met} {u:Int}:∀{O:List Ord},(∀x∈O,Jc2 S x)→(J4 M u O).length≤48*O.length
 |[],_=>Nat.le_refl _
 |x::l,h=>by
  have h1:=Jfi (M:=M) (u:=u) (O:=l) fun y hy=>h y (List.mem_cons_of_mem _ hy)
  have h2:=Jl3 (M:=M) (u:=u) (x:=x) (x.2.2.2.1.2-x.2.2.2.1.1).toNat x.2.2.2.1.1
  have h3:=Jpp (h x (List.mem_cons_self ..))
  unfold Kz at h3
  unfold J4 Jvu
  rw[List.length_append,List.length_cons]
  omega
theorem Jp6 {M:List Met} {u:Int} {x:Ord}:∀(n:Nat) (h:Int),∀g∈Dg M u x h n,h≤g.2∧g.2<h+n
 |0,_,g,hg=>by cases hg
 | n + 1, h, g, hg => by
  unfold Dg at hg
  rcases List.mem_append.1 hg with hg|hg
  ·cases hb:Jr x h&&(decide (h<u)&&decide (K6 M x.1 h<0)) with
   |false=>rw[hb] at hg;cases hg
   |true=>
    rw[hb,cond_true] at hg
    rw[List.mem_singleton.1 hg]
    constructor<;>dsimp only<;>omega
  ·have:=Jp6 n (h+1) g hg
   omega
theorem Jd8 {S:List Sta} {M:List Met} {u:Int}:∀{O:List Ord},(∀x∈O,Jc2 S x)→∀g∈J4 M u O,0≤g.2∧g.2≤999999999
 |[],_,g,hg=>by cases hg
 | x :: l, h, g, hg => by
  unfold J4 at hg
  rcases List.mem_append.1 hg with hg|hg
  ·have hs:=(h x (List.mem_cons_self ..)).span
   have h1:=hs.lo
   have h2:=hs.mid
   have h3:=hs.hi
   have:=Jp6 _ _ g hg
   omega
  ·exact Jd8 (fun y hy=>h y (List.mem_cons_of_mem _ hy)) g hg
def Ktg (a:Nat×Ls):=(List.length a.2+2)*16≤140737488355328
def J9x (a:List Met) (b:Int) (c:List Ord) (d:Nat×Ls):=(List.getD (J4 a b c) d.1 (B0,0)).2
def Kpg (a:Nat×Ls) (b:List Met) (c:Int) (d:List Ord):=a.1≤List.length (J4 b c d)∧List.length a.2≤600∧Hz (List.drop a.1 (J4 b c d)) a.2=Hz (J4 b c d) []
def K0n (a:Nat×Ls) (b:List Met) (c:Int) (d:List Ord) (e:Nat×Ls):=Kpg a b c d∧List.length (J4 b c d)-a.1<List.length (J4 b c d)-e.1
theorem Kvz:Ok Tryz.prog 200 Kis:=okW K91 Tryz.f200 (fun xx=>Y4 (J2r (J4 xx.1.2.2.2.2.1 xx.1.1 xx.1.2.2.2.1))) fun xx=>by
 obtain⟨⟨(tk:Int),(st:Int),(S:List Sta),(O:List Ord),(M:List Met),(X:List Out),(Q:List Per)⟩,(s:ByteArray),_⟩:=xx
 refine(by kernel_rfl:(Ju tk st S O M X Q→Ju tk st S O M X Q∧∃(x:Nat×List ByteArray),Si (Ln (J4 M tk O)) (0=Nc x.1∧Sf (J4 M tk O) (List.length x.2=0))∧Kpg x M tk O∧∀(x:Nat×List ByteArray),Kpg x M tk O→Br (decide (Nc x.1<Ln (J4 M tk O))) (Tw (Bd (Nc x.1) (Ln (J4 M tk O)))∧Br (decide (Ln x.2<512)) ((Iw (J9x M tk O x)∧Ktg x)∧Iw (Nc x.1+1)∧∃(y:Nat×List ByteArray),Si (Ln (J4 M tk O)) (Nc x.1+1=Nc y.1∧Sf (J4 M tk O) (x.2++[(List.getD (J4 M tk O) x.1 (B0,0)).1,Ux (J9x M tk O x)]=y.2))∧K0n y M tk O x) (Iw (Nc x.1+1)∧∃(y:Nat×List ByteArray),Si (Ln (J4 M tk O)) (Nc x.1+1=Nc y.1∧Sf (J4 M tk O) (x.2=y.2))∧K0n y M tk O x)) (x.2=Jds (Z72 tk st S O M X Q) s))=_).mp ?_
 delta Z72 Ju Ktg J9x Kpg K0n Br Iw Bd Tw Sf Si Ln Nc B0
 intro hr
 have nO:O.length≤32:=hr.nO
 have hL:(J4 M tk O).length≤48*O.length:=Jfi hr.ord
 have hG:∀g∈J4 M tk O,0≤g.2∧g.2≤999999999:=Jd8 hr.ord
 have hq:Jds (tk,st,S,O,M,X,Q) s=Hz (J4 M tk O) []:=rfl
 rw[hq]
 refine⟨hr,((0:Nat),[]),by simp,⟨Nat.zero_le _,Nat.zero_le _,rfl⟩,fun(x:Nat×List ByteArray) hx=>⟨fun hlt=> ?_,fun hlt=> ?_⟩⟩
 ·obtain⟨k,o⟩:=x
  obtain⟨k1,k2,k3⟩:=hx
  have hlt:k<(J4 M tk O).length:=by simpa using hlt
  have hg:=hG _ (Je (d:=(Jb,0)) hlt)
  dsimp only at k1 k2 k3
  rw[Jq (d:=((Jb,0):Gap)) hlt,Hz] at k3
  have hz:((({data:={toList:=[]}}:ByteArray),(0:Int)):Gap)=(Jb,0):=rfl
  simp only[hz]
  refine⟨by omega,fun h=>⟨⟨by omega,by(first|omega|dsimp only;omega)⟩,by omega,(k+1,o++[((J4 M tk O).getD k (Jb,0)).1,Ux ((J4 M tk O).getD k (Jb,0)).2]),by simp,⟨by(first|omega|dsimp only;omega), ?_, ?_⟩,by(first|omega|dsimp only;omega)⟩,fun h=>⟨by omega,(k+1,o),by simp,⟨by(first|omega|dsimp only;omega),k2, ?_⟩,by(first|omega|dsimp only;omega)⟩⟩
  ·have h:=of_decide_eq_true h
   simp only[List.length_append,List.length_cons,List.length_nil]
   omega
  all_goals (rw[h] at k3;exact k3)
 ·obtain⟨k,o⟩:=x
  obtain⟨k1,k2,k3⟩:=hx
  have hlt:¬k<(J4 M tk O).length:=by simpa using hlt
  have e:k=(J4 M tk O).length:=by dsimp only at k1;omega
  rw[e,List.drop_length,Hz] at k3
  exact k3
abbrev K90:=K91.add Kvz
def Uc4:Con:={args:=[.val true X4, .ref 105 Jkq],ress:=[Bo],owns:=[],pre:=fun _=>[],spec:=fun(x,(tk,_),_)=>(Ki x.2.2.1 tk,())}
theorem Kvw:Ok Tryz.prog 203 Uc4:=okW K90 Tryz.f203 na fun xx=>by
 obtain⟨⟨(n:ByteArray),(f:ByteArray),⟨(a:Int),(b:Int)⟩,(p:Int)⟩,⟨(tk:Int),(st:Int),(S:List Sta),(O:List Ord),(M:List Met),(X:List Out),(Q:List Per)⟩,_⟩:=xx
 refine(by kernel_rfl:(Ki (a,b) tk=Ki (a,b) tk)=_).mp ?_
 rfl
abbrev K9z:=K90.add Kvw
def Ki5:Con:={args:=[.val false (.list 188 X4), .fn [(true,X4)] Bo],ress:=[(false, .list 188 X4)],owns:=[true],pre:=fun(l,(q,_),_)=>[l.length≤1000000,∀x∈l,Up (q (x,()))],spec:=fun(l,(_,f),_)=>(l.filter fun x=>f (x,()),())}
def J55 (a:Out×Unit→Bool) (b:Nat) (c:List Out):=List.filter (fun(x:Out)=>a (x,PUnit.unit)) (List.take b c)
def Jz1 (a:Nat) (b:List Out) (c:Nat):=a≤List.length b∧Jyi b a c
theorem Ubm:Ok Tryz.prog 94 Ki5:=okW K9z Tryz.f94 (fun xx=>Y4 (Jo5 188 188 X4 xx.1 true xx.2.1.1 xx.2.1.2)) fun xx=>by
 obtain⟨(l:List Out),⟨(q:Out×Unit→List Prop),(f:Out×Unit→Bool)⟩,_⟩:=xx
 refine(by kernel_rfl:(Z55 l→J5u l q→∃(x:Nat),Si (Ln l) (0=Nc x∧Sf l ((fun(x:Out×PUnit)=>q x)=q∧(fun(x:Out×PUnit)=>f x)=f∧List.length (J55 f x l)=0))∧x≤List.length l∧∀(x:Nat),x≤List.length l→Br (Jrk x l) (Z93 x l∧J5o q l x∧Br (Koi f l x) ((List.length (J55 f x l)+1)*56≤140737488355328∧Z20 x∧∃(y:Nat),Si (Ln l) (Vm x y∧Sf l ((fun(x:Out×PUnit)=>q x)=q∧(fun(x:Out×PUnit)=>f x)=f∧J55 f x l++[Ke1 l x]=J55 f y l))∧Jz1 y l x) (Z20 x∧∃(y:Nat),Si (Ln l) (Vm x y∧Sf l ((fun(x:Out×PUnit)=>q x)=q∧(fun(x:Out×PUnit)=>f x)=f∧J55 f x l=J55 f y l))∧Jz1 y l x)) (J55 f x l=List.filter (fun(x:Out)=>f (x,PUnit.unit)) l))=_).mp ?_
 delta Z20 Z55 Z93 Jrk Vm Jgp Jyi J55 Jz4 Jyh J26 Jz1 J9p J5u Ke1 J5p Koi J5o Br Iw Bd Tw Sf Si Ln Nc B0 E2
 intro hb hq
 refine⟨(0:Nat),⟨rfl,rfl,rfl,rfl,rfl,by simp⟩,Nat.zero_le _,fun(k:Nat) hk=>⟨fun h=> ?_,fun h=> ?_⟩⟩
 ·have hlt:k<l.length:=by simpa using h
  have hf:=Jf3 (p:=fun x=>f (x,())) hk
  have ht:=Km (d:=Fi) hlt
  refine⟨by omega,hq (l.getD k Fi) (Je hlt),fun h1=> ?_,fun h1=> ?_⟩
  ·have h1:f (l.getD k Fi,())=true:=h1
   refine⟨by show((List.filter (fun x=>f (x,())) (List.take k l)).length+1)*56≤_;omega,by omega,(k+1:Nat),⟨rfl,by simp,rfl,rfl,rfl, ?_⟩,by omega,by omega⟩
   rw[←ht,List.filter_append,List.filter_cons,if_pos h1];rfl
  ·have h1:f (l.getD k Fi,())=false:=h1
   refine⟨by omega,(k+1:Nat),⟨rfl,by simp,rfl,rfl,rfl, ?_⟩,by omega,by omega⟩
   rw[←ht,List.filter_append,List.filter_cons,if_neg (by rw[h1];decide)];simp
 ·have hlt:¬k<l.length:=by simpa using h
  rw[List.take_of_length_le (by omega)]
abbrev K9y:=K9z.add Ubm
def Kiy:Con:={args:=[.val false (.list 188 X4), .fn [(true,X4)] tS],ress:=[(false, .list 9 .str)],owns:=[true],pre:=fun(l,(q,_),_)=>[l.length≤1000000,∀x∈l,Up (q (x,()))],spec:=fun(l,(_,f),_)=>(l.map fun x=>f (x,()),())}
def Kgh (a:Out×Unit→Bt) (b:Nat) (c:List Out):=List.map (fun(x:Out)=>a (x,PUnit.unit)) (List.take b c)
theorem Kvx:Ok Tryz.prog 202 Kiy:=okW K9y Tryz.f202 (fun xx=>Y4 (Jbz 188 9 X4 xx.1 tS true xx.2.1.1 xx.2.1.2)) fun xx=>by
 obtain⟨(l:List Out),⟨(q:Out×Unit→List Prop),(f:Out×Unit→ByteArray)⟩,_⟩:=xx
 refine(by kernel_rfl:(Z55 l→J5u l q→∃(x:Nat),Si (Ln l) (0=Nc x∧Sf l ((fun(x:Out×PUnit)=>q x)=q∧(fun(x:Out×PUnit)=>f x)=f∧List.length (Kgh f x l)=0))∧x≤List.length l∧∀(x:Nat),x≤List.length l→Br (Jrk x l) (Z93 x l∧(J5o q l x∧(List.length (Kgh f x l)+1)*16≤140737488355328)∧Z20 x∧∃(y:Nat),Si (Ln l) (Vm x y∧Sf l ((fun(x:Out×PUnit)=>q x)=q∧(fun(x:Out×PUnit)=>f x)=f∧Kgh f x l++[f (J5p l x)]=Kgh f y l))∧Jz1 y l x) (Kgh f x l=List.map (fun(x:Out)=>f (x,PUnit.unit)) l))=_).mp ?_
 delta Z20 Z55 Z93 Jrk Vm Jgp Jyi Jz4 Kgh Jyh J26 Jz1 J9p J5u Ke1 J5p J5o Br Iw Bd Tw Sf Si Ln Nc B0 E2
 intro hb hq
 refine⟨(0:Nat),⟨rfl,rfl,rfl,rfl,rfl,by simp⟩,Nat.zero_le _,fun(k:Nat) hk=>⟨fun h=> ?_,fun h=> ?_⟩⟩
 ·have hlt:k<l.length:=by simpa using h
  refine⟨by omega,⟨hq (l.getD k Fi) (Je hlt),by simp only[List.length_map,List.length_take];omega⟩,by omega,(k+1:Nat),⟨rfl,by simp,rfl,rfl,rfl, ?_⟩,by omega,by omega⟩
  rw[←Km (d:=Fi) hlt,List.map_append];rfl
 ·have hlt:¬k<l.length:=by simpa using h
  rw[List.take_of_length_le (by omega)]
abbrev K9x:=K9y.add Kvx
def Ki0:Con:={args:=[.val false (.list 235 Zl), .fn [(true,Zl)] tS],ress:=[(false, .list 9 .str)],owns:=[true],pre:=fun(l,(q,_),_)=>[l.length≤1000000,∀x∈l,Up (q (x,()))],spec:=fun(l,(_,f),_)=>(l.map fun x=>f (x,()),())}
def Kgg (a:Per×Unit→Bt) (b:Nat) (c:List Per):=List.map (fun(x:Per)=>a (x,PUnit.unit)) (List.take b c)
theorem Kvt:Ok Tryz.prog 206 Ki0:=okW K9x Tryz.f206 (fun xx=>Y4 (Jbz 235 9 Zl xx.1 tS true xx.2.1.1 xx.2.1.2)) fun xx=>by
 obtain⟨(l:List Per),⟨(q:Per×Unit→List Prop),(f:Per×Unit→ByteArray)⟩,_⟩:=xx
 refine(by kernel_rfl:(Z54 l→Kfx l q→∃(x:Nat),Si (Ln l) (0=Nc x∧Sf l ((fun(x:Per×PUnit)=>q x)=q∧(fun(x:Per×PUnit)=>f x)=f∧List.length (Kgg f x l)=0))∧x≤List.length l∧∀(x:Nat),x≤List.length l→Br (Jt2 x l) (Tw (Z23 x l)∧(Kfj q l x∧(List.length (Kgg f x l)+1)*16≤140737488355328)∧Z20 x∧∃(y:Nat),Si (Ln l) (Vm x y∧Sf l ((fun(x:Per×PUnit)=>q x)=q∧(fun(x:Per×PUnit)=>f x)=f∧Kgg f x l++[f (Kfl l x)]=Kgg f y l))∧J5v y l x) (Kgg f x l=List.map (fun(x:Per)=>f (x,PUnit.unit)) l))=_).mp ?_
 delta Z20 Z23 Z54 Vm Jt2 J0d Jz8 Kgg J5v Kfx Kme Kfl Kfj Br Iw Bd Tw Sf Si Ln Nc B0 E2
 intro hb hq
 refine⟨(0:Nat),⟨rfl,rfl,rfl,rfl,rfl,by simp⟩,Nat.zero_le _,fun(k:Nat) hk=>⟨fun h=> ?_,fun h=> ?_⟩⟩
 ·have hlt:k<l.length:=by simpa using h
  refine⟨by omega,⟨hq (l.getD k Jd5) (Je hlt),by simp only[List.length_map,List.length_take];omega⟩,by omega,(k+1:Nat),⟨rfl,by simp,rfl,rfl,rfl, ?_⟩,by omega,by omega⟩
  rw[←Km (d:=Jd5) hlt,List.map_append];rfl
 ·have hlt:¬k<l.length:=by simpa using h
  rw[List.take_of_length_le (by omega)]
abbrev K9w:=K9x.add Kvt
def Jvi:Reg→ByteArray→List ByteArray:=fun(tk,_,_,_,_,X,_) _=>(X.filter fun x=>Ki x.2.2.1 tk).map fun x=>x.1
def Ky0:Con:=cQ (fun r _=>[Jn r]) Jvi
theorem Kvy:Ok Tryz.prog 201 Ky0:=okW K9w Tryz.f201 na fun xx=>by
 obtain⟨⟨(tk:Int),(st:Int),(S:List Sta),(O:List Ord),(M:List Met),(X:List Out),(Q:List Per)⟩,(s:ByteArray),_⟩:=xx
 refine(by kernel_rfl:(Ju tk st S O M X Q→(Z55 X∧Ksx X∧List.length (List.filter (fun(x:Out)=>Ki x.2.2.1 tk) X)≤1000000∧∀(x:Out),x∈List.filter (fun(x:Out)=>Ki x.2.2.1 tk) X→True)∧List.map (fun(x:Out)=>x.1) (List.filter (fun(x:Out)=>Ki x.2.2.1 tk) X)=Jvi (Z72 tk st S O M X Q) s)=_).mp ?_
 delta Z55 Z72 Ju Ksx
 intro hr
 have nX:X.length≤16:=hr.nX
 have:=List.length_filter_le (fun x:Out=>Ki x.2.2.1 tk) X
 exact⟨⟨by omega,fun _ _=>trivial,Nat.le_trans this (by omega),fun _ _=>trivial⟩,rfl⟩
abbrev K9v:=K9w.add Kvy
def Jvh:Reg→ByteArray→List ByteArray:=fun(_,_,_,_,_,_,Q) _=>(Ha Q).map fun x=>x.1
def Kyz:Con:=cQ (fun r _=>[Jn r]) Jvh
theorem Kvu:Ok Tryz.prog 205 Kyz:=okW K9v Tryz.f205 na fun xx=>by
 obtain⟨⟨(tk:Int),(st:Int),(S:List Sta),(O:List Ord),(M:List Met),(X:List Out),(Q:List Per)⟩,(s:ByteArray),_⟩:=xx
 refine(by kernel_rfl:(Ju tk st S O M X Q→Kpk tk st S O M X Q∧List.map (fun(x:Per)=>x.1) (Ha Q)=Jvh (Z72 tk st S O M X Q) s)=_).mp ?_
 delta Z72 Ju Kpk
 intro hr
 have nQ:Q.length≤16:=hr.nQ
 have:=Jd6 (Q:=Q)
 exact⟨⟨hr,by omega,fun _ _=>trivial⟩,rfl⟩
abbrev K9u:=K9v.add Kvu
def Jg6:Reg→ByteArray→List ByteArray:=fun(_,st,_) _=>[Ux st]
def Kiq:Con:=cQ (fun r _=>[Jn r]) Jg6
theorem Kvq:Ok Tryz.prog 209 Kiq:=okW K9u Tryz.f209 na fun xx=>by
 obtain⟨⟨(tk:Int),(st:Int),(S:List Sta),(O:List Ord),(M:List Met),(X:List Out),(Q:List Per)⟩,(s:ByteArray),_⟩:=xx
 refine(by kernel_rfl:(Ju tk st S O M X Q→Iw st∧[Ux st]=Jg6 (Z72 tk st S O M X Q) s)=_).mp ?_
 delta Z72 Ju Iw
 intro hr
 have h1:0≤st∧st≤tk:=hr.st
 have h2:0≤tk∧tk≤999999999:=hr.tk
 exact⟨⟨by omega,by omega⟩,rfl⟩
abbrev K74:=K9u.add Kvq
end Go.Proofs.YtcibbcfiemeoiaaGreatDoor
namespace Go.Proofs.Tryz
open Go.Proofs.YtcibbcfiemeoiaaGreatDoor
def questU:List (ByteArray×Bool×Int×Option Nat):=[(⟨⟨[98,97,108,97,110,99,101]⟩⟩,true,0,some 195),(⟨⟨[114,97,116,101]⟩⟩,true,0,some 196),(⟨⟨[98,105,108,108]⟩⟩,true,1,some 197),(⟨⟨[109,105,115,115,105,110,103]⟩⟩,false,1,some 200),(⟨⟨[111,117,116,97,103,101,115]⟩⟩,false,2,some 201),(⟨⟨[112,101,114,109,105,116,115]⟩⟩,false,3,some 205),(⟨⟨[115,101,116,116,108,101,100]⟩⟩,false,0,some 209)]
end Go.Proofs.Tryz
namespace Go.Proofs.YtcibbcfiemeoiaaGreatDoor
open Go.Sx
abbrev Kq:ByteArray:=⟨⟨[98,97,108,97,110,99,101]⟩⟩
abbrev Xe:ByteArray:=⟨⟨[114,97,116,101]⟩⟩
abbrev Xf:ByteArray:=⟨⟨[98,105,108,108]⟩⟩
abbrev Ke:ByteArray:=⟨⟨[109,105,115,115,105,110,103]⟩⟩
abbrev Kl:ByteArray:=⟨⟨[111,117,116,97,103,101,115]⟩⟩
abbrev Kk:ByteArray:=⟨⟨[112,101,114,109,105,116,115]⟩⟩
abbrev Kj:ByteArray:=⟨⟨[115,101,116,116,108,101,100]⟩⟩
structure NmR (r:Reg):Prop where
 o:∀x∈r.2.2.2.1,x.1.size≤24
 x:∀x∈r.2.2.2.2.2.1,x.1.size≤24
 q:∀x∈r.2.2.2.2.2.2,x.1.size≤24
def Zk (h:J9):Prop:=∀r∈h.2.2,NmR r
theorem J66 {e:Ev} (h:Jd e=0) (i:Nat):(e.2.2.1.getD i Jb).size≤24:=by
 by_cases hi:i<e.2.2.1.length
 ·exact Jjt ((K1 h).name _ (Je hi))
 ·rw[List.getD_eq_getElem?_getD,List.getElem?_eq_none (by omega)]
  decide
theorem Jbm {α:Type} {p:α→Prop} {l:List α} {d:α} (h:∀x∈l,p x) (hd:p d) (i:Nat):p (l.getD i d):=by
 by_cases hi:i<l.length
 ·exact h _ (Je hi)
 ·rw[List.getD_eq_getElem?_getD,List.getElem?_eq_none (by omega)]
  exact hd
theorem J6p {r:Reg} {e:Ev} (hr:NmR r) (hc:Jd e=0):NmR (Jw r e):=by
 have hn:=J66 hc
 obtain⟨tk,st,S,O,M,X,Q⟩:=r
 obtain⟨n,k,ns,vs,tx⟩:=e
 have ho:∀x∈O,x.1.size≤24:=hr.o
 have hx:∀x∈X,x.1.size≤24:=hr.x
 have hq:∀x∈Q,x.1.size≤24:=hr.q
 have hO:∀s,(Xj O s).1.size≤24:=fun s=>Jbm (p:=fun x:Ord=>x.1.size≤24) ho (by decide) _
 have hX:∀s,(Df X s).1.size≤24:=fun s=>Jbm (p:=fun x:Out=>x.1.size≤24) hx (by decide) _
 have hQ:∀s,(Jm9 Q s).1.size≤24:=fun s=>Jbm (p:=fun x:Per=>x.1.size≤24) hq (by decide) _
 unfold Jw doS
 split
 all_goals refine⟨fun y hy=> ?_,fun y hy=> ?_,fun y hy=> ?_⟩
 all_goals first|exact ho y hy|exact hx y hy|exact hq y hy|(rcases V9 hy with h|h;(first|exact ho y h|exact hx y h|exact hq y h);rw[h];exact hn 0)|(rcases Jcf hy with h|h;rw[h];(first|exact hO _|exact hX _|exact hQ _);(first|exact ho y h|exact hx y h|exact hq y h))
theorem Kkn {h:J9} {e:Ev} (hN:Zk h) (ha:K3 h e=0):Zk (Ho h e):=by
 obtain⟨hc,hacc⟩:=add_zero ha
 obtain⟨E,C,G⟩:=h
 have h0:NmR (Ko G):=by
  unfold Ko
  exact Jbm (p:=NmR) hN ⟨fun x h=>(by cases h),fun x h=>(by cases h),fun x h=>(by cases h)⟩ _
 cases hk:e.2.1.toList==J1.toList with
 |true=>
  unfold Ho
  rw[hk,cond_true]
  exact fun r hr=>hN r (List.mem_of_mem_take hr)
 |false=>
  unfold Ho
  rw[hk,cond_false]
  intro r hr
  rcases V9 hr with hr|rfl
  ·exact hN r hr
  ·exact J6p h0 hc
theorem J40 {h:J9} (hN:Zk h):NmR (Ko h.2.2):=by
 unfold Ko
 exact Jbm (p:=NmR) hN ⟨fun x h=>(by cases h),fun x h=>(by cases h),fun x h=>(by cases h)⟩ _
theorem J7k:Zk Y7:=fun r h=>by cases h
abbrev K8a:Sch:= .prod .bool (.prod sI .fnc)
abbrev Qst:=Bool×Int×Option Nat
def Je6:List (ByteArray×Qst):=Tryz.questU
def J5g:Jm7:={kT:=9,gk:=false,gv:=true,ks:= .str,vs:=K8a,l:=Je6}
theorem Kuo:wpFM Tryz.prog K74.g (na ()) (fun _=>na ()) (Sx.look ([]:List (Nat×Func))) Tryz.f118 J5g:=by
 refine(by kernel_rfl:(Kpa∧Sf true ([(Kq,true,0,some 195),(Xe,true,0,some 196),(Xf,true,1,some 197),(Ke,false,1,some 200),(Kl,false,2,some 201),(Kk,false,3,some 205),(Kj,false,0,some 209)]=Je6))=_).mp ?_
 delta Kpa Sf Lb Kq Xf Ke Kl Kk Xe Kj
 exact⟨⟨fun _ _=>rfl,fun _=>rfl⟩,rfl,rfl⟩
theorem J63:Ok Tryz.prog 118 (Jm7.con J5g):=J4y (Jlz mixed K74.ok (by kernel_rfl) (by kernel_rfl) (U6 (l:=([]:List (Nat×Func))) (by simp)) (na ()) (fun _=>na ()) Kuo)
abbrev Uef:=K74.add J63
def J72:Jm7:={kT:=9,gk:=false,gv:=true,ks:= .str,vs:=K8a,l:=Tryz.questU}
theorem Kh0:Ok Tryz.prog 118 (Jm7.con J72):=J63
abbrev J0i:=Uef.add Kh0
def Jdb (k:ByteArray):Qst:=(Vv .str k Je6).getD (false,0,none)
def Zc (k:ByteArray):Bool:=(Vv .str k Je6).isSome
def Kyh:ByteArray:=⟨⟨[110,111,110,101]⟩⟩
def Jgk (l:List ByteArray):ByteArray:=bif (l.length:Int)==0 then Kyh else Uj l ⟨⟨[32]⟩⟩
def Jdv (named:Bool) (what:Int) (f:Reg→ByteArray→List ByteArray) (r:Reg) (ws:List ByteArray):ByteArray×Int:=
 bif named then(bif (ws.length:Int)==2 then(bif (ws.getD 1 Jb).toList==Jb.toList then(Jb,25) else bif !Ye r what (ws.getD 1 Jb) then(Jb,10) else(Jgk (f r (ws.getD 1 Jb)),0)) else(Jb,25))
 else bif (ws.length:Int) !=1 then(Jb,25) else(Jgk (f r Jb),0)
def Zf (r:Reg) (ws:List ByteArray):ByteArray×Int:=match(Jdb (ws.getD 0 Jb)).2.2 with
 |some 195=>Jdv true 0 Jzq r ws
 |some 196=>Jdv true 0 Jg7 r ws
 |some 197=>Jdv true 1 Jg8 r ws
 |some 200=>Jdv false 1 Jds r ws
 |some 201=>Jdv false 2 Jvi r ws
 |some 205=>Jdv false 3 Jvh r ws
 |some 209=>Jdv false 0 Jg6 r ws
 |_=>(Jb,0)
structure Jdz (h:J9) (ws:List ByteArray):Prop where
 hist:Kp h
 nm:Zk h
 len:1≤ws.length
 key:Zc (ws.getD 0 Jb)=true
 max:ws.length≤1000000
 siz:∀w∈ws,w.size≤1000000
def J2k:X9:={T? :=none,s:=Jjh,args:=[.val false (.list 9 .str)],ress:=[tS,I],pre:=fun h (ws,_)=>[Jdz h ws],spec:=fun h (ws,_)=>((Zf (Ko h.2.2) ws).1,(Zf (Ko h.2.2) ws).2,()),post:=fun h _=>h}
def SmL (l:List ByteArray):Prop:=l.length≤2000∧∀w∈l,w.size≤40
theorem Y5 {l:List ByteArray} (h:SmL l):l.length≤1000000∧(Lib.join (l.map fun x=>x.data.toList) [32]).length≤140737488355328:=by
 refine⟨by have:=h.1;omega,Nat.le_trans (Jbh rfl) ?_⟩
 have:∀l:List ByteArray,(∀w∈l,w.size≤40)→((l.map fun x=>x.data.toList).map fun x=>x.length+1).sum≤41*l.length:=by
  intro l
  induction l with
  |nil=>intro _;simp
  |cons x r ih=>
   intro h
   have h1:=ih fun w hw=>h w (List.mem_cons_of_mem _ hw)
   have h2:x.data.toList.length≤40:=h x (List.mem_cons_self ..)
   simp only[List.map_cons,List.sum_cons,List.length_cons]
   omega
 have h1:=this l h.2
 have h2:=h.1
 omega
theorem Jjf {l:List Int} (h:l.length≤2000) (hb:∀n∈l,-9223372036854775808≤n∧n≤9223372036854775807):SmL (l.map Ux):=by
 refine⟨by simpa using h,fun w hw=> ?_⟩
 obtain⟨n,hn,rfl⟩:=List.mem_map.1 hw
 exact Jbi n (hb n hn).1 (hb n hn).2
theorem Juy {r:Reg} (hr:Jn r) (s:ByteArray):SmL (Jzq r s):=by
 obtain⟨tk,st,S,O,M,X,Q⟩:=r
 have hb:=Jo1 (s:=s) hr
 exact Jjf (l:=[Jo2 st S O M s]) (by simp) fun n hn=>by rw[List.mem_singleton.1 hn];omega
theorem Jnw {r:Reg} (hr:Jn r) {s:ByteArray} (h:0≤J6 r.2.2.1 s):SmL (Jg7 r s):=by
 obtain⟨tk,st,S,O,M,X,Q⟩:=r
 have hs:0≤(Hm S s).2.2∧(Hm S s).2.2≤1000:=(Jet hr.sta h).pri
 exact Jjf (l:=[(Hm S s).2.2]) (by simp) fun n hn=>by rw[List.mem_singleton.1 hn];omega
theorem Jny {r:Reg} (hr:Jn r) {s:ByteArray} (h:0≤K0 r.2.2.2.1 s):SmL (Jg8 r s):=by
 obtain⟨tk,st,S,O,M,X,Q⟩:=r
 have hb:=L0 hr (Jaj h)
 have b1:=hb.hours
 have b2:=hb.sent
 have b3:=hb.got
 have b4:=hb.money
 have b5:=hb.fine
 refine Jjf (l:=[(J0 st M (Xj O s)).2.1,(J0 st M (Xj O s)).2.2.1,(J0 st M (Xj O s)).2.2.2.1,(J0 st M (Xj O s)).2.2.2.2.1,(J0 st M (Xj O s)).2.2.2.2.2]) (by simp) fun n hn=> ?_
 simp only[List.mem_cons,List.not_mem_nil,or_false] at hn
 rcases hn with rfl|rfl|rfl|rfl|rfl<;>omega
theorem Jju:∀{l:List Gap} {o:List ByteArray},(∀g∈l,g.1.size≤40∧0≤g.2∧g.2≤999999999)→o.length≤514→(∀w∈o,w.size≤40)→SmL (Hz l o)
 |[],o,_,h1,h2=>⟨by unfold Hz;omega,h2⟩
 | g :: l, o, h, h1, h2 => by
  unfold Hz
  have hg:=h g (List.mem_cons_self ..)
  have h':∀x∈l,x.1.size≤40∧0≤x.2∧x.2≤999999999:=fun x hx=>h x (List.mem_cons_of_mem _ hx)
  cases hd:decide ((o.length:Int)<512) with
  |false=>exact Jju h' h1 h2
  |true=>
   have hd:=of_decide_eq_true hd
   rw[cond_true]
   refine Jju h' (by rw[List.length_append,List.length_cons,List.length_cons,List.length_nil];omega) fun w hw=> ?_
   simp only[List.mem_append,List.mem_cons,List.not_mem_nil,or_false] at hw
   rcases hw with hw|rfl|rfl
   ·exact h2 w hw
   ·exact hg.1
   ·exact Jbi _ (by omega) (by omega)
theorem Jp5 {M:List Met} {u:Int} {x:Ord}:∀(n:Nat) (h:Int),∀g∈Dg M u x h n,g.1=x.1
 |0,_,g,hg=>by cases hg
 | n + 1, h, g, hg => by
  unfold Dg at hg
  rcases List.mem_append.1 hg with hg|hg
  ·cases hb:Jr x h&&(decide (h<u)&&decide (K6 M x.1 h<0)) with
   |false=>rw[hb] at hg;cases hg
   |true=>
    rw[hb,cond_true] at hg
    rw[List.mem_singleton.1 hg]
  ·exact Jp5 n (h+1) g hg
theorem Jp4 {M:List Met} {u:Int}:∀{O:List Ord},(∀x∈O,x.1.size≤24)→∀g∈J4 M u O,g.1.size≤24
 |[],_,g,hg=>by cases hg
 | x :: l, h, g, hg => by
  unfold J4 at hg
  rcases List.mem_append.1 hg with hg|hg
  ·rw[Jp5 _ _ g hg]
   exact h x (List.mem_cons_self ..)
  ·exact Jp4 (fun y hy=>h y (List.mem_cons_of_mem _ hy)) g hg
theorem Jnx {r:Reg} (hr:Jn r) (hN:NmR r) (s:ByteArray):SmL (Jds r s):=by
 obtain⟨tk,st,S,O,M,X,Q⟩:=r
 refine Jju (fun g hg=>⟨?_,Jd8 hr.ord g hg⟩) (by decide) fun w hw=>by cases hw
 have:=Jp4 hN.o g hg
 omega
theorem Jux {r:Reg} (hr:Jn r) (hN:NmR r) (s:ByteArray):SmL (Jvi r s):=by
 obtain⟨tk,st,S,O,M,X,Q⟩:=r
 have nX:X.length≤16:=hr.nX
 have:=List.length_filter_le (fun x:Out=>Ki x.2.2.1 tk) X
 refine⟨by unfold Jvi;rw[List.length_map];omega,fun w hw=> ?_⟩
 obtain⟨x,hx,rfl⟩:=List.mem_map.1 hw
 have:=hN.x x (List.mem_filter.1 hx).1
 omega
theorem Juw {r:Reg} (hr:Jn r) (hN:NmR r) (s:ByteArray):SmL (Jvh r s):=by
 obtain⟨tk,st,S,O,M,X,Q⟩:=r
 have nQ:Q.length≤16:=hr.nQ
 have:=Jd6 (Q:=Q)
 refine⟨by unfold Jvh;rw[List.length_map];omega,fun w hw=> ?_⟩
 obtain⟨x,hx,rfl⟩:=List.mem_map.1 hw
 have:=hN.q x (List.mem_filter.1 hx).1
 omega
theorem Jnv {r:Reg} (hr:Jn r) (s:ByteArray):SmL (Jg6 r s):=by
 obtain⟨tk,st,S,O,M,X,Q⟩:=r
 have h1:0≤st∧st≤tk:=hr.st
 have h2:0≤tk∧tk≤999999999:=hr.tk
 exact Jjf (l:=[st]) (by simp) fun n hn=>by rw[List.mem_singleton.1 hn];omega
theorem Jfg (G:List Reg):(decide (0<(G.length:Int))=true∧0<(G.length:Int)∧Ko G=G.getD ((G.length:Int)-1).toNat Xg)∨(decide (0<(G.length:Int))=false∧Ko G=Xg):=by
 cases h:decide (0<(G.length:Int)) with
 |true=>exact .inl ⟨rfl,of_decide_eq_true h,by unfold Ko;congr 1;omega⟩
 |false=>exact .inr ⟨rfl,Kw h⟩
theorem z119:((0:Int),(0:Int),([]:List Sta),([]:List Ord),([]:List Met),([]:List Out),([]:List Per))=Xg:=rfl
theorem J67:({data:={toList:=[]}}:ByteArray)=Jb:=rfl
theorem J7f (w:ByteArray) (ws:List ByteArray):((w::ws).length:Int)=(ws.length:Int)+1:=by simp
theorem J7u (w:ByteArray) (ws:List ByteArray):(w::ws).getD 1 Jb=ws.getD 0 Jb:=rfl
theorem Je9 {E C:List Ev} {G:List Reg} {w:ByteArray} {ws:List ByteArray} (h:Jdz (E,C,G) (w::ws)):Jn (Ko G)∧NmR (Ko G)∧G.length≤1000∧(w::ws).length≤1000000∧∀x∈w::ws,x.size≤1000000:=⟨Fq h.hist,J40 h.nm,by have:=h.hist.nE;have:=h.hist.nC;have:=h.hist.nG;dsimp only at*;omega,h.max,h.siz⟩
theorem Jsg:Jdb Kq=(true,0,some 195):=by kernel_rfl
theorem Jgi (r:Reg) (ws:List ByteArray):Zf r (Kq::ws)=Jdv true 0 Jzq r (Kq::ws):=by
 have:(Kq::ws).getD 0 Jb=Kq:=rfl
 unfold Zf
 rw[this,Jsg]
 rfl
def Z86 (a:List Reg) (b:Ls):=(Zf (Ko a) (Kq::b)).1
def Ktp (a:Ls):=Ln (Kq::a)==2
def Kgx (a:List Reg) (b:Ls):=0=(Zf (Ko a) (Kq::b)).2
def Kgs:=1≤1000000∧1≤140737488355328
def Jq8 (a:Ls):= !Lb (Uz a) B0
def Jkt:=ByteArray.mk (Array.mk [110,111,110,101])
def Kl5 (a:Ls):=Jzq Vz (Uz a)
def K1u (a:TypeId) (b c:List Ev) (d:List Reg) (e:Ls):=Sf true (Sf a (Sf (b,c,d) (B0=Z86 d e∧25=(Zf (Ko d) (Kq::e)).2)))
def Kk0 (a:TypeId) (b c:List Ev) (d:List Reg) (e:Ls):=Sf true (Sf a (Sf (b,c,d) (B0=Z86 d e∧10=(Zf (Ko d) (Kq::e)).2)))
def Kku (a:TypeId) (b c:List Ev) (d:List Reg) (e:Ls):=Sf true (Sf a (Sf (b,c,d) (Jkt=Z86 d e∧Kgx d e)))
def Jy6 (a:List Reg):=Jzq (Kx a) B0
def Jy0 (a:List Reg) (b:Ls):=Jzq (Kx a) (Uz b)
def J3t (a:List Reg):=bif true then !Ye (Kx a) 0 B0 else false
theorem Ji8 (T:TypeId) (E C:List Ev) (G:List Reg) (ws:List ByteArray):wpFO Tryz.prog J0i.g (na ()) (fun _=>na ()) (Sx.look ([(75,Tryz.f75)]:List (Nat×Func))) Tryz.f119 J2k T (E,C,G) (Kq::ws,()):=by
 refine(by kernel_rfl:(Jdz (E,C,G) (Kq::ws)→Tw (Bd 0 (Ln (Kq::ws)))∧Br (bif true then Ktp ws else false) (Tw (Bd 1 (Ln (Kq::ws)))∧Br (bif !true==bif Ktp ws then Jq8 ws else false then true else false) (K1u T E C G ws) (Br (Yc G) (Yb G∧Zi G∧Br (Jtg G ws) (Kk0 T E C G ws) (Ub G∧Br (Ln (Jy0 G ws)==0) (Kku T E C G ws) ((List.length (Jy0 G ws)≤1000000∧List.length (Lib.join (List.map (fun(x:ByteArray)=>Z11 x) (Jy0 G ws)) [32])≤140737488355328)∧Sf true (Sf T (Sf (E,C,G) (Uj (Jy0 G ws) H6=Z86 G ws∧Kgx G ws)))))) (Jej∧Br (Ke8 ws) (Kk0 T E C G ws) (Y1∧Br (Ln (Kl5 ws)==0) (Kku T E C G ws) ((List.length (Kl5 ws)≤1000000∧List.length (Lib.join (List.map (fun(x:ByteArray)=>Z11 x) (Kl5 ws)) [32])≤140737488355328)∧Sf true (Sf T (Sf (E,C,G) (Uj (Kl5 ws) H6=Z86 G ws∧Kgx G ws)))))))) (Br (bif !true==bif Ktp ws then false else false then true else false) (K1u T E C G ws) (Br (Yc G) (Yb G∧Zi G∧Br (J3t G) (Kk0 T E C G ws) (Ub G∧Br (Ln (Jy6 G)==0) (Kku T E C G ws) ((List.length (Jy6 G)≤1000000∧List.length (Lib.join (List.map (fun(x:ByteArray)=>Z11 x) (Jy6 G)) [32])≤140737488355328)∧Sf true (Sf T (Sf (E,C,G) (Uj (Jy6 G) H6=Z86 G ws∧Kgx G ws)))))) (Jej∧Br true (Kk0 T E C G ws) (Y1∧Br false (Kku T E C G ws) (Kgs∧Sf true (Sf T (Sf (E,C,G) (Uj (Jzq Vz B0) H6=Z86 G ws∧Kgx G ws)))))))))=_).mp ?_
 delta Z11 Z86 Uz Yc H6 Ktp Kgx Kgs Jq8 Jkt Do Vz Yb Y1 Jej Fl Jaw Fk Kl5 F4 H5 H4 Dn Hk J5s Ke8 K1u Kk0 Kku Ym Kx Ub Jy6 Zi Jy0 Jm3 J3t Jtg Br Iw Bd Tw Sf Ln Gt B0 Lb E2 Kq
 intro ha
 obtain⟨hr,-,hG,hmax,hsz⟩:=Je9 ha
 simp only[Jgi,J67,z119,J7f,Prod.eta,Jdv,J7u]
 rcases Jfg G with⟨hd,hp,e0⟩|⟨hd,e0⟩<;>rw[hd,←e0]<;>cases h2:(ws.length:Int)+1==2<;>cases h3:(ws.getD 0 Jb).toList==Jb.toList<;>cases h4:Ye (Ko G) 0 (ws.getD 0 Jb)<;>cases h5:(((Jzq (Ko G) (ws.getD 0 Jb)).length:Int)==0)
 all_goals simp only[h5,bne,Jgk,Bool.not_true,Bool.not_false,cond_true,cond_false,BEq.rfl,Bool.true_beq,reduceCtorEq,false_implies,forall_const,true_and,and_true,and_self]
 all_goals repeat' apply And.intro
 all_goals first|omega|(have:=eq_of_beq h2;omega)|exact hr|exact(Y5 (Juy hr _)).1|exact(Y5 (Juy hr _)).2|rfl|simpa[Ye] using h4|(rw[e0] at h4;simpa[Ye,Xg] using h4)|(rw[e0] at h5;exact Bool.noConfusion h5)|skip
theorem J6x:Jdb Xe=(true,0,some 196):=by kernel_rfl
theorem Jqx (r:Reg) (ws:List ByteArray):Zf r (Xe::ws)=Jdv true 0 Jg7 r (Xe::ws):=by
 have:(Xe::ws).getD 0 Jb=Xe:=rfl
 unfold Zf
 rw[this,J6x]
 rfl
def Z60 (a:List Reg) (b:Ls):=(Zf (Ko a) (Xe::b)).1
def Ktu (a:Ls):=Ln (Xe::a)==2
def Kg6 (a:List Reg) (b:Ls):=0=(Zf (Ko a) (Xe::b)).2
def Kl0 (a:Ls):=Jg7 Vz (Uz a)
def K13 (a:TypeId) (b c:List Ev) (d:List Reg) (e:Ls):=Sf true (Sf a (Sf (b,c,d) (B0=Z60 d e∧25=(Zf (Ko d) (Xe::e)).2)))
def Kk8 (a:TypeId) (b c:List Ev) (d:List Reg) (e:Ls):=Sf true (Sf a (Sf (b,c,d) (B0=Z60 d e∧10=(Zf (Ko d) (Xe::e)).2)))
def Kkv (a:TypeId) (b c:List Ev) (d:List Reg) (e:Ls):=Sf true (Sf a (Sf (b,c,d) (Jkt=Z60 d e∧Kg6 d e)))
def Jy4 (a:List Reg):=Jg7 (Kx a) B0
def Jyw (a:List Reg) (b:Ls):=Jg7 (Kx a) (Uz b)
theorem Jrv (T:TypeId) (E C:List Ev) (G:List Reg) (ws:List ByteArray):wpFO Tryz.prog J0i.g (na ()) (fun _=>na ()) (Sx.look ([(75,Tryz.f75)]:List (Nat×Func))) Tryz.f119 J2k T (E,C,G) (Xe::ws,()):=by
 refine(by kernel_rfl:(Jdz (E,C,G) (Xe::ws)→Tw (Bd 0 (Ln (Xe::ws)))∧Br (bif true then Ktu ws else false) (Tw (Bd 1 (Ln (Xe::ws)))∧Br (bif !true==bif Ktu ws then Jq8 ws else false then true else false) (K13 T E C G ws) (Br (Yc G) (Yb G∧Zi G∧Br (Jtg G ws) (Kk8 T E C G ws) ((Ub G∧0≤J6 (H5 G).1 (Uz ws))∧Br (Ln (Jyw G ws)==0) (Kkv T E C G ws) ((List.length (Jyw G ws)≤1000000∧List.length (Lib.join (List.map (fun(x:ByteArray)=>Z11 x) (Jyw G ws)) [32])≤140737488355328)∧Sf true (Sf T (Sf (E,C,G) (Uj (Jyw G ws) H6=Z60 G ws∧Kg6 G ws)))))) (Jej∧Br (Ke8 ws) (Kk8 T E C G ws) ((Y1∧0≤J6 [] (Uz ws))∧Br (Ln (Kl0 ws)==0) (Kkv T E C G ws) ((List.length (Kl0 ws)≤1000000∧List.length (Lib.join (List.map (fun(x:ByteArray)=>Z11 x) (Kl0 ws)) [32])≤140737488355328)∧Sf true (Sf T (Sf (E,C,G) (Uj (Kl0 ws) H6=Z60 G ws∧Kg6 G ws)))))))) (Br (bif !true==bif Ktu ws then false else false then true else false) (K13 T E C G ws) (Br (Yc G) (Yb G∧Zi G∧Br (J3t G) (Kk8 T E C G ws) ((Ub G∧0≤J6 (H5 G).1 B0)∧Br (Ln (Jy4 G)==0) (Kkv T E C G ws) ((List.length (Jy4 G)≤1000000∧List.length (Lib.join (List.map (fun(x:ByteArray)=>Z11 x) (Jy4 G)) [32])≤140737488355328)∧Sf true (Sf T (Sf (E,C,G) (Uj (Jy4 G) H6=Z60 G ws∧Kg6 G ws)))))) (Jej∧Br true (Kk8 T E C G ws) ((Y1∧0≤J6 [] B0)∧Br false (Kkv T E C G ws) (Kgs∧Sf true (Sf T (Sf (E,C,G) (Uj (Jg7 Vz B0) H6=Z60 G ws∧Kg6 G ws)))))))))=_).mp ?_
 delta Z11 Z60 Uz Yc Ktu H6 Kg6 Kgs Jq8 Jkt Do Vz Yb Y1 Jej Fl Jaw Fk Kl0 F4 H5 H4 Dn Hk J5s Ke8 K13 Kk8 Kkv Ym Kx Ub Jy4 Zi Jyw Jm3 J3t Jtg Br Iw Bd Tw Sf Ln Gt B0 Lb E2 Xe
 intro ha
 obtain⟨hr,-,hG,hmax,hsz⟩:=Je9 ha
 simp only[Jqx,J67,z119,J7f,Prod.eta,Jdv,J7u]
 rcases Jfg G with⟨hd,hp,e0⟩|⟨hd,e0⟩<;>rw[hd,←e0]<;>cases h2:(ws.length:Int)+1==2<;>cases h3:(ws.getD 0 Jb).toList==Jb.toList<;>cases h4:Ye (Ko G) 0 (ws.getD 0 Jb)<;>cases h5:(((Jg7 (Ko G) (ws.getD 0 Jb)).length:Int)==0)
 all_goals simp only[h5,bne,Jgk,Bool.not_true,Bool.not_false,cond_true,cond_false,BEq.rfl,Bool.true_beq,reduceCtorEq,false_implies,forall_const,true_and,and_true,and_self]
 all_goals repeat' apply And.intro
 all_goals first|omega|(have:=eq_of_beq h2;omega)|exact hr|exact(Y5 (Jnw hr (by simpa[Ye] using h4))).1|exact(Y5 (Jnw hr (by simpa[Ye] using h4))).2|rfl|simpa[Ye] using h4|(rw[e0] at h4;simpa[Ye,Xg] using h4)|(rw[e0] at h5;exact Bool.noConfusion h5)|skip
theorem J6y:Jdb Xf=(true,1,some 197):=by kernel_rfl
theorem Jqy (r:Reg) (ws:List ByteArray):Zf r (Xf::ws)=Jdv true 1 Jg8 r (Xf::ws):=by
 have:(Xf::ws).getD 0 Jb=Xf:=rfl
 unfold Zf
 rw[this,J6y]
 rfl
def Z52 (a:List Reg) (b:Ls):=(Zf (Ko a) (Xf::b)).1
def Ktv (a:Ls):=Ln (Xf::a)==2
def Kg5 (a:List Reg) (b:Ls):=0=(Zf (Ko a) (Xf::b)).2
def Kl4 (a:Ls):=Jg8 Vz (Uz a)
def K12 (a:TypeId) (b c:List Ev) (d:List Reg) (e:Ls):=Sf true (Sf a (Sf (b,c,d) (B0=Z52 d e∧25=(Zf (Ko d) (Xf::e)).2)))
def Kk7 (a:TypeId) (b c:List Ev) (d:List Reg) (e:Ls):=Sf true (Sf a (Sf (b,c,d) (B0=Z52 d e∧10=(Zf (Ko d) (Xf::e)).2)))
def Kkw (a:TypeId) (b c:List Ev) (d:List Reg) (e:Ls):=Sf true (Sf a (Sf (b,c,d) (Jkt=Z52 d e∧Kg5 d e)))
def Jy3 (a:List Reg):=Jg8 (Kx a) B0
def Jyy (a:List Reg) (b:Ls):=Jg8 (Kx a) (Uz b)
theorem Jrw (T:TypeId) (E C:List Ev) (G:List Reg) (ws:List ByteArray):wpFO Tryz.prog J0i.g (na ()) (fun _=>na ()) (Sx.look ([(75,Tryz.f75)]:List (Nat×Func))) Tryz.f119 J2k T (E,C,G) (Xf::ws,()):=by
 refine(by kernel_rfl:(Jdz (E,C,G) (Xf::ws)→Tw (Bd 0 (Ln (Xf::ws)))∧Br (bif true then Ktv ws else false) (Tw (Bd 1 (Ln (Xf::ws)))∧Br (bif !true==bif Ktv ws then Jq8 ws else false then true else false) (K12 T E C G ws) (Br (Yc G) (Yb G∧Zi G∧Br (Jtf G ws) (Kk7 T E C G ws) ((Ub G∧0≤K0 (H4 G).1 (Uz ws))∧Br (Ln (Jyy G ws)==0) (Kkw T E C G ws) ((List.length (Jyy G ws)≤1000000∧List.length (Lib.join (List.map (fun(x:ByteArray)=>Z11 x) (Jyy G ws)) [32])≤140737488355328)∧Sf true (Sf T (Sf (E,C,G) (Uj (Jyy G ws) H6=Z52 G ws∧Kg5 G ws)))))) (Jej∧Br (Ke7 ws) (Kk7 T E C G ws) ((Y1∧0≤K0 [] (Uz ws))∧Br (Ln (Kl4 ws)==0) (Kkw T E C G ws) ((List.length (Kl4 ws)≤1000000∧List.length (Lib.join (List.map (fun(x:ByteArray)=>Z11 x) (Kl4 ws)) [32])≤140737488355328)∧Sf true (Sf T (Sf (E,C,G) (Uj (Kl4 ws) H6=Z52 G ws∧Kg5 G ws)))))))) (Br (bif !true==bif Ktv ws then false else false then true else false) (K12 T E C G ws) (Br (Yc G) (Yb G∧Zi G∧Br (bif true then !Ye (Kx G) 1 B0 else false) (Kk7 T E C G ws) ((Ub G∧0≤K0 (H4 G).1 B0)∧Br (Ln (Jy3 G)==0) (Kkw T E C G ws) ((List.length (Jy3 G)≤1000000∧List.length (Lib.join (List.map (fun(x:ByteArray)=>Z11 x) (Jy3 G)) [32])≤140737488355328)∧Sf true (Sf T (Sf (E,C,G) (Uj (Jy3 G) H6=Z52 G ws∧Kg5 G ws)))))) (Jej∧Br true (Kk7 T E C G ws) ((Y1∧0≤K0 [] B0)∧Br false (Kkw T E C G ws) ((5≤1000000∧9≤140737488355328)∧Sf true (Sf T (Sf (E,C,G) (Uj (Jg8 Vz B0) H6=Z52 G ws∧Kg5 G ws)))))))))=_).mp ?_
 delta Z11 Z52 Uz Yc Ktv H6 Kg5 Jq8 Jkt Do Vz Yb Y1 Jej Fl Jaw Fk Kl4 F4 H5 H4 Dn Hk Kfd Ke7 K12 Kk7 Kkw Ym Kx Ub Jy3 Zi Jyy Jti Jtf Br Iw Bd Tw Sf Ln Gt B0 Lb E2 Xf
 intro ha
 obtain⟨hr,-,hG,hmax,hsz⟩:=Je9 ha
 simp only[Jqy,J67,z119,J7f,Prod.eta,Jdv,J7u]
 rcases Jfg G with⟨hd,hp,e0⟩|⟨hd,e0⟩<;>rw[hd,←e0]<;>cases h2:(ws.length:Int)+1==2<;>cases h3:(ws.getD 0 Jb).toList==Jb.toList<;>cases h4:Ye (Ko G) 1 (ws.getD 0 Jb)<;>cases h5:(((Jg8 (Ko G) (ws.getD 0 Jb)).length:Int)==0)
 all_goals simp only[h5,bne,Jgk,Bool.not_true,Bool.not_false,cond_true,cond_false,BEq.rfl,Bool.true_beq,reduceCtorEq,false_implies,forall_const,true_and,and_true,and_self]
 all_goals repeat' apply And.intro
 all_goals first|omega|(have:=eq_of_beq h2;omega)|exact hr|exact(Y5 (Jny hr (by simpa[Ye] using h4))).1|exact(Y5 (Jny hr (by simpa[Ye] using h4))).2|rfl|simpa[Ye] using h4|(rw[e0] at h4;simpa[Ye,Xg] using h4)|(rw[e0] at h5;exact Bool.noConfusion h5)|skip
theorem Jsf:Jdb Ke=(false,1,some 200):=by kernel_rfl
theorem Jgh (r:Reg) (ws:List ByteArray):Zf r (Ke::ws)=Jdv false 1 Jds r (Ke::ws):=by
 have:(Ke::ws).getD 0 Jb=Ke:=rfl
 unfold Zf
 rw[this,Jsf]
 rfl
def Z48 (a:Ls):=Ln (Ke::a)
def Z87 (a:List Reg) (b:Ls):=(Zf (Ko a) (Ke::b)).1
def Kgy (a:List Reg) (b:Ls):=0=(Zf (Ko a) (Ke::b)).2
def Kgt:=0≤1000000∧0≤140737488355328
def K5e (a:Ls):=bif true then Z48 a !=1 else false
def Kl2 (a:Ls):=Jds Vz (Uz a)
def Kk5 (a:TypeId) (b c:List Ev) (d:List Reg) (e:Ls):=Sf true (Sf a (Sf (b,c,d) (B0=Z87 d e∧10=(Zf (Ko d) (Ke::e)).2)))
def K1t (a:TypeId) (b c:List Ev) (d:List Reg) (e:Ls):=Sf true (Sf a (Sf (b,c,d) (B0=Z87 d e∧25=(Zf (Ko d) (Ke::e)).2)))
def Kkr (a:TypeId) (b c:List Ev) (d:List Reg) (e:Ls):=Sf true (Sf a (Sf (b,c,d) (Jkt=Z87 d e∧Kgy d e)))
def Jy5 (a:List Reg):=Jds (Kx a) B0
def Jyx (a:List Reg) (b:Ls):=Jds (Kx a) (Uz b)
theorem Ji7 (T:TypeId) (E C:List Ev) (G:List Reg) (ws:List ByteArray):wpFO Tryz.prog J0i.g (na ()) (fun _=>na ()) (Sx.look ([(75,Tryz.f75)]:List (Nat×Func))) Tryz.f119 J2k T (E,C,G) (Ke::ws,()):=by
 refine(by kernel_rfl:(Jdz (E,C,G) (Ke::ws)→Tw (Bd 0 (Z48 ws))∧Br false (Tw (Bd 1 (Z48 ws))∧Br (bif !false==bif Z48 ws==2 then Jq8 ws else false then true else K5e ws) (K1t T E C G ws) (Br (Yc G) (Yb G∧Xu G∧Br false (Kk5 T E C G ws) (Ub G∧Br (Ln (Jyx G ws)==0) (Kkr T E C G ws) ((List.length (Jyx G ws)≤1000000∧List.length (Lib.join (List.map (fun(x:ByteArray)=>Z11 x) (Jyx G ws)) [32])≤140737488355328)∧Sf true (Sf T (Sf (E,C,G) (Uj (Jyx G ws) H6=Z87 G ws∧Kgy G ws)))))) (Jb2∧Br false (Kk5 T E C G ws) (Y1∧Br (Ln (Kl2 ws)==0) (Kkr T E C G ws) ((List.length (Kl2 ws)≤1000000∧List.length (Lib.join (List.map (fun(x:ByteArray)=>Z11 x) (Kl2 ws)) [32])≤140737488355328)∧Sf true (Sf T (Sf (E,C,G) (Uj (Kl2 ws) H6=Z87 G ws∧Kgy G ws)))))))) (Br (bif !false==bif Z48 ws==2 then false else false then true else K5e ws) (K1t T E C G ws) (Br (Yc G) (Yb G∧Xu G∧Br false (Kk5 T E C G ws) (Ub G∧Br (Ln (Jy5 G)==0) (Kkr T E C G ws) ((List.length (Jy5 G)≤1000000∧List.length (Lib.join (List.map (fun(x:ByteArray)=>Z11 x) (Jy5 G)) [32])≤140737488355328)∧Sf true (Sf T (Sf (E,C,G) (Uj (Jy5 G) H6=Z87 G ws∧Kgy G ws)))))) (Jb2∧Br false (Kk5 T E C G ws) (Y1∧Br true (Kkr T E C G ws) (Kgt∧Sf true (Sf T (Sf (E,C,G) (Uj (Jds Vz B0) H6=Z87 G ws∧Kgy G ws)))))))))=_).mp ?_
 delta Z11 Z48 Z87 Uz Yc H6 Kgy Kgt Jq8 Jkt Do Vz Yb Y1 Jb2 K5e Fl Jaw Fk Kl2 F4 H5 H4 Dn Hk Kk5 K1t Kkr Ym Kx Ub Jy5 Xu Jyx Br Iw Bd Tw Sf Ln Gt B0 Lb E2 Ke
 intro ha
 obtain⟨hr,hN,hG,hmax,hsz⟩:=Je9 ha
 simp only[Jgh,J67,z119,J7f,Prod.eta,Jdv,J7u]
 rcases Jfg G with⟨hd,hp,e0⟩|⟨hd,e0⟩<;>rw[hd,←e0]<;>cases h2:(ws.length:Int)+1==1<;>cases h6:(ws.length:Int)+1==2<;>cases h3:(ws.getD 0 Jb).toList==Jb.toList<;>cases h5:(((Jds (Ko G) Jb).length:Int)==0)
 all_goals simp only[h2,h5,bne,Jgk,Bool.not_true,Bool.not_false,cond_true,cond_false,BEq.rfl,Bool.false_beq,reduceCtorEq,false_implies,forall_const,true_and,and_true,and_self]
 all_goals repeat' apply And.intro
 all_goals first|omega|(have:=eq_of_beq h2;omega)|exact hr|exact(Y5 (Jnx hr hN _)).1|exact(Y5 (Jnx hr hN _)).2|rfl|(rw[e0] at h5;exact Bool.noConfusion h5)|skip
theorem Jse:Jdb Kl=(false,2,some 201):=by kernel_rfl
theorem Jgg (r:Reg) (ws:List ByteArray):Zf r (Kl::ws)=Jdv false 2 Jvi r (Kl::ws):=by
 have:(Kl::ws).getD 0 Jb=Kl:=rfl
 unfold Zf
 rw[this,Jse]
 rfl
def Z49 (a:Ls):=Ln (Kl::a)
def Z98 (a:List Reg) (b:Ls):=(Zf (Ko a) (Kl::b)).1
def Kg0 (a:List Reg) (b:Ls):=0=(Zf (Ko a) (Kl::b)).2
def K5i (a:Ls):=bif true then Z49 a !=1 else false
def Kl6 (a:Ls):=Jvi Vz (Uz a)
def Kk3 (a:TypeId) (b c:List Ev) (d:List Reg) (e:Ls):=Sf true (Sf a (Sf (b,c,d) (B0=Z98 d e∧10=(Zf (Ko d) (Kl::e)).2)))
def K1s (a:TypeId) (b c:List Ev) (d:List Reg) (e:Ls):=Sf true (Sf a (Sf (b,c,d) (B0=Z98 d e∧25=(Zf (Ko d) (Kl::e)).2)))
def Kkq (a:TypeId) (b c:List Ev) (d:List Reg) (e:Ls):=Sf true (Sf a (Sf (b,c,d) (Jkt=Z98 d e∧Kg0 d e)))
def Jy8 (a:List Reg):=Jvi (Kx a) B0
def Jyz (a:List Reg) (b:Ls):=Jvi (Kx a) (Uz b)
theorem Ji6 (T:TypeId) (E C:List Ev) (G:List Reg) (ws:List ByteArray):wpFO Tryz.prog J0i.g (na ()) (fun _=>na ()) (Sx.look ([(75,Tryz.f75)]:List (Nat×Func))) Tryz.f119 J2k T (E,C,G) (Kl::ws,()):=by
 refine(by kernel_rfl:(Jdz (E,C,G) (Kl::ws)→Tw (Bd 0 (Z49 ws))∧Br false (Tw (Bd 1 (Z49 ws))∧Br (bif !false==bif Z49 ws==2 then Jq8 ws else false then true else K5i ws) (K1s T E C G ws) (Br (Yc G) (Yb G∧Xu G∧Br false (Kk3 T E C G ws) (Ub G∧Br (Ln (Jyz G ws)==0) (Kkq T E C G ws) ((List.length (Jyz G ws)≤1000000∧List.length (Lib.join (List.map (fun(x:ByteArray)=>Z11 x) (Jyz G ws)) [32])≤140737488355328)∧Sf true (Sf T (Sf (E,C,G) (Uj (Jyz G ws) H6=Z98 G ws∧Kg0 G ws)))))) (Jb2∧Br false (Kk3 T E C G ws) (Y1∧Br (Ln (Kl6 ws)==0) (Kkq T E C G ws) ((List.length (Kl6 ws)≤1000000∧List.length (Lib.join (List.map (fun(x:ByteArray)=>Z11 x) (Kl6 ws)) [32])≤140737488355328)∧Sf true (Sf T (Sf (E,C,G) (Uj (Kl6 ws) H6=Z98 G ws∧Kg0 G ws)))))))) (Br (bif !false==bif Z49 ws==2 then false else false then true else K5i ws) (K1s T E C G ws) (Br (Yc G) (Yb G∧Xu G∧Br false (Kk3 T E C G ws) (Ub G∧Br (Ln (Jy8 G)==0) (Kkq T E C G ws) ((List.length (Jy8 G)≤1000000∧List.length (Lib.join (List.map (fun(x:ByteArray)=>Z11 x) (Jy8 G)) [32])≤140737488355328)∧Sf true (Sf T (Sf (E,C,G) (Uj (Jy8 G) H6=Z98 G ws∧Kg0 G ws)))))) (Jb2∧Br false (Kk3 T E C G ws) (Y1∧Br true (Kkq T E C G ws) (Kgt∧Sf true (Sf T (Sf (E,C,G) (Uj (Jvi Vz B0) H6=Z98 G ws∧Kg0 G ws)))))))))=_).mp ?_
 delta Z11 Z49 Z98 Uz Yc H6 Kg0 Kgt Jq8 Jkt Do Vz Yb Y1 Jb2 K5i Fl Jaw Kl6 Fk F4 H5 H4 Dn Hk Kk3 K1s Kkq Ym Kx Ub Jy8 Xu Jyz Br Iw Bd Tw Sf Ln Gt B0 Lb E2 Kl
 intro ha
 obtain⟨hr,hN,hG,hmax,hsz⟩:=Je9 ha
 simp only[Jgg,J67,z119,J7f,Prod.eta,Jdv,J7u]
 rcases Jfg G with⟨hd,hp,e0⟩|⟨hd,e0⟩<;>rw[hd,←e0]<;>cases h2:(ws.length:Int)+1==1<;>cases h6:(ws.length:Int)+1==2<;>cases h3:(ws.getD 0 Jb).toList==Jb.toList<;>cases h5:(((Jvi (Ko G) Jb).length:Int)==0)
 all_goals simp only[h2,h5,bne,Jgk,Bool.not_true,Bool.not_false,cond_true,cond_false,BEq.rfl,Bool.false_beq,reduceCtorEq,false_implies,forall_const,true_and,and_true,and_self]
 all_goals repeat' apply And.intro
 all_goals first|omega|(have:=eq_of_beq h2;omega)|exact hr|exact(Y5 (Jux hr hN _)).1|exact(Y5 (Jux hr hN _)).2|rfl|(rw[e0] at h5;exact Bool.noConfusion h5)|skip
theorem Jsd:Jdb Kk=(false,3,some 205):=by kernel_rfl
theorem Jgf (r:Reg) (ws:List ByteArray):Zf r (Kk::ws)=Jdv false 3 Jvh r (Kk::ws):=by
 have:(Kk::ws).getD 0 Jb=Kk:=rfl
 unfold Zf
 rw[this,Jsd]
 rfl
def Z44 (a:Ls):=Ln (Kk::a)
def Z92 (a:List Reg) (b:Ls):=(Zf (Ko a) (Kk::b)).1
def Kg1 (a:List Reg) (b:Ls):=0=(Zf (Ko a) (Kk::b)).2
def K5g (a:Ls):=bif true then Z44 a !=1 else false
def Kl8 (a:Ls):=Jvh Vz (Uz a)
def K1r (a:TypeId) (b c:List Ev) (d:List Reg) (e:Ls):=Sf true (Sf a (Sf (b,c,d) (B0=Z92 d e∧25=(Zf (Ko d) (Kk::e)).2)))
def Kkz (a:TypeId) (b c:List Ev) (d:List Reg) (e:Ls):=Sf true (Sf a (Sf (b,c,d) (B0=Z92 d e∧10=(Zf (Ko d) (Kk::e)).2)))
def Kks (a:TypeId) (b c:List Ev) (d:List Reg) (e:Ls):=Sf true (Sf a (Sf (b,c,d) (Jkt=Z92 d e∧Kg1 d e)))
def Jy7 (a:List Reg):=Jvh (Kx a) B0
def Jy1 (a:List Reg) (b:Ls):=Jvh (Kx a) (Uz b)
theorem Ji5 (T:TypeId) (E C:List Ev) (G:List Reg) (ws:List ByteArray):wpFO Tryz.prog J0i.g (na ()) (fun _=>na ()) (Sx.look ([(75,Tryz.f75)]:List (Nat×Func))) Tryz.f119 J2k T (E,C,G) (Kk::ws,()):=by
 refine(by kernel_rfl:(Jdz (E,C,G) (Kk::ws)→Tw (Bd 0 (Z44 ws))∧Br false (Tw (Bd 1 (Z44 ws))∧Br (bif !false==bif Z44 ws==2 then Jq8 ws else false then true else K5g ws) (K1r T E C G ws) (Br (Yc G) (Yb G∧Xu G∧Br false (Kkz T E C G ws) (Ub G∧Br (Ln (Jy1 G ws)==0) (Kks T E C G ws) ((List.length (Jy1 G ws)≤1000000∧List.length (Lib.join (List.map (fun(x:ByteArray)=>Z11 x) (Jy1 G ws)) [32])≤140737488355328)∧Sf true (Sf T (Sf (E,C,G) (Uj (Jy1 G ws) H6=Z92 G ws∧Kg1 G ws)))))) (Jb2∧Br false (Kkz T E C G ws) (Y1∧Br (Ln (Kl8 ws)==0) (Kks T E C G ws) ((List.length (Kl8 ws)≤1000000∧List.length (Lib.join (List.map (fun(x:ByteArray)=>Z11 x) (Kl8 ws)) [32])≤140737488355328)∧Sf true (Sf T (Sf (E,C,G) (Uj (Kl8 ws) H6=Z92 G ws∧Kg1 G ws)))))))) (Br (bif !false==bif Z44 ws==2 then false else false then true else K5g ws) (K1r T E C G ws) (Br (Yc G) (Yb G∧Xu G∧Br false (Kkz T E C G ws) (Ub G∧Br (Ln (Jy7 G)==0) (Kks T E C G ws) ((List.length (Jy7 G)≤1000000∧List.length (Lib.join (List.map (fun(x:ByteArray)=>Z11 x) (Jy7 G)) [32])≤140737488355328)∧Sf true (Sf T (Sf (E,C,G) (Uj (Jy7 G) H6=Z92 G ws∧Kg1 G ws)))))) (Jb2∧Br false (Kkz T E C G ws) (Y1∧Br true (Kks T E C G ws) (Kgt∧Sf true (Sf T (Sf (E,C,G) (Uj (Jvh Vz B0) H6=Z92 G ws∧Kg1 G ws)))))))))=_).mp ?_
 delta Z11 Z44 Z92 Uz Yc H6 Kg1 Kgt Jq8 Jkt Do Vz Yb Y1 Jb2 K5g Fl Jaw Kl8 Fk F4 H5 H4 Dn Hk K1r Kkz Kks Ym Kx Ub Jy7 Xu Jy1 Br Iw Bd Tw Sf Ln Gt B0 Lb E2 Kk
 intro ha
 obtain⟨hr,hN,hG,hmax,hsz⟩:=Je9 ha
 simp only[Jgf,J67,z119,J7f,Prod.eta,Jdv,J7u]
 rcases Jfg G with⟨hd,hp,e0⟩|⟨hd,e0⟩<;>rw[hd,←e0]<;>cases h2:(ws.length:Int)+1==1<;>cases h6:(ws.length:Int)+1==2<;>cases h3:(ws.getD 0 Jb).toList==Jb.toList<;>cases h5:(((Jvh (Ko G) Jb).length:Int)==0)
 all_goals simp only[h2,h5,bne,Jgk,Bool.not_true,Bool.not_false,cond_true,cond_false,BEq.rfl,Bool.false_beq,reduceCtorEq,false_implies,forall_const,true_and,and_true,and_self]
 all_goals repeat' apply And.intro
 all_goals first|omega|(have:=eq_of_beq h2;omega)|exact hr|exact(Y5 (Juw hr hN _)).1|exact(Y5 (Juw hr hN _)).2|rfl|(rw[e0] at h5;exact Bool.noConfusion h5)|skip
theorem Jsc:Jdb Kj=(false,0,some 209):=by kernel_rfl
theorem Jge (r:Reg) (ws:List ByteArray):Zf r (Kj::ws)=Jdv false 0 Jg6 r (Kj::ws):=by
 have:(Kj::ws).getD 0 Jb=Kj:=rfl
 unfold Zf
 rw[this,Jsc]
 rfl
def Z47 (a:Ls):=Ln (Kj::a)
def Z96 (a:List Reg) (b:Ls):=(Zf (Ko a) (Kj::b)).1
def Kgw (a:List Reg) (b:Ls):=0=(Zf (Ko a) (Kj::b)).2
def K5h (a:Ls):=bif true then Z47 a !=1 else false
def Kl1 (a:Ls):=Jg6 Vz (Uz a)
def Kk1 (a:TypeId) (b c:List Ev) (d:List Reg) (e:Ls):=Sf true (Sf a (Sf (b,c,d) (B0=Z96 d e∧10=(Zf (Ko d) (Kj::e)).2)))
def K1q (a:TypeId) (b c:List Ev) (d:List Reg) (e:Ls):=Sf true (Sf a (Sf (b,c,d) (B0=Z96 d e∧25=(Zf (Ko d) (Kj::e)).2)))
def Kkt (a:TypeId) (b c:List Ev) (d:List Reg) (e:Ls):=Sf true (Sf a (Sf (b,c,d) (Jkt=Z96 d e∧Kgw d e)))
def Jy2 (a:List Reg):=Jg6 (Kx a) B0
def Jyv (a:List Reg) (b:Ls):=Jg6 (Kx a) (Uz b)
theorem Ji4 (T:TypeId) (E C:List Ev) (G:List Reg) (ws:List ByteArray):wpFO Tryz.prog J0i.g (na ()) (fun _=>na ()) (Sx.look ([(75,Tryz.f75)]:List (Nat×Func))) Tryz.f119 J2k T (E,C,G) (Kj::ws,()):=by
 refine(by kernel_rfl:(Jdz (E,C,G) (Kj::ws)→Tw (Bd 0 (Z47 ws))∧Br false (Tw (Bd 1 (Z47 ws))∧Br (bif !false==bif Z47 ws==2 then Jq8 ws else false then true else K5h ws) (K1q T E C G ws) (Br (Yc G) (Yb G∧Xu G∧Br false (Kk1 T E C G ws) (Ub G∧Br (Ln (Jyv G ws)==0) (Kkt T E C G ws) ((List.length (Jyv G ws)≤1000000∧List.length (Lib.join (List.map (fun(x:ByteArray)=>Z11 x) (Jyv G ws)) [32])≤140737488355328)∧Sf true (Sf T (Sf (E,C,G) (Uj (Jyv G ws) H6=Z96 G ws∧Kgw G ws)))))) (Jb2∧Br false (Kk1 T E C G ws) (Y1∧Br (Ln (Kl1 ws)==0) (Kkt T E C G ws) ((List.length (Kl1 ws)≤1000000∧List.length (Lib.join (List.map (fun(x:ByteArray)=>Z11 x) (Kl1 ws)) [32])≤140737488355328)∧Sf true (Sf T (Sf (E,C,G) (Uj (Kl1 ws) H6=Z96 G ws∧Kgw G ws)))))))) (Br (bif !false==bif Z47 ws==2 then false else false then true else K5h ws) (K1q T E C G ws) (Br (Yc G) (Yb G∧Xu G∧Br false (Kk1 T E C G ws) (Ub G∧Br (Ln (Jy2 G)==0) (Kkt T E C G ws) ((List.length (Jy2 G)≤1000000∧List.length (Lib.join (List.map (fun(x:ByteArray)=>Z11 x) (Jy2 G)) [32])≤140737488355328)∧Sf true (Sf T (Sf (E,C,G) (Uj (Jy2 G) H6=Z96 G ws∧Kgw G ws)))))) (Jb2∧Br false (Kk1 T E C G ws) (Y1∧Br false (Kkt T E C G ws) (Kgs∧Sf true (Sf T (Sf (E,C,G) (Uj (Jg6 Vz B0) H6=Z96 G ws∧Kgw G ws)))))))))=_).mp ?_
 delta Z11 Z47 Z96 Uz Yc H6 Kgw Kgs Jq8 Jkt Do Vz Yb Y1 Jb2 K5h Fl Jaw Fk Kl1 F4 H5 H4 Dn Hk Kk1 K1q Kkt Ym Kx Ub Jy2 Xu Jyv Br Iw Bd Tw Sf Ln Gt B0 Lb E2 Kj
 intro ha
 obtain⟨hr,-,hG,hmax,hsz⟩:=Je9 ha
 simp only[Jge,J67,z119,J7f,Prod.eta,Jdv,J7u]
 rcases Jfg G with⟨hd,hp,e0⟩|⟨hd,e0⟩<;>rw[hd,←e0]<;>cases h2:(ws.length:Int)+1==1<;>cases h6:(ws.length:Int)+1==2<;>cases h3:(ws.getD 0 Jb).toList==Jb.toList<;>cases h5:(((Jg6 (Ko G) Jb).length:Int)==0)
 all_goals simp only[h2,h5,bne,Jgk,Bool.not_true,Bool.not_false,cond_true,cond_false,BEq.rfl,Bool.false_beq,reduceCtorEq,false_implies,forall_const,true_and,and_true,and_self]
 all_goals repeat' apply And.intro
 all_goals first|omega|(have:=eq_of_beq h2;omega)|exact hr|exact(Y5 (Jnv hr _)).1|exact(Y5 (Jnv hr _)).2|rfl|(rw[e0] at h5;exact Bool.noConfusion h5)|skip
theorem Jai {k:ByteArray} (h:Zc k=true):k=Kq∨k=Xe∨k=Xf∨k=Ke∨k=Kl∨k=Kk∨k=Kj:=by
 obtain⟨x,hx,hk⟩:=Jfh h
 have hk:=Jv7 hk
 unfold Je6 Tryz.questU at hx
 subst hk
 simp only[List.mem_cons,List.not_mem_nil,or_false] at hx
 rcases hx with rfl|rfl|rfl|rfl|rfl|rfl|rfl
 all_goals simp
theorem Kun (T:TypeId):∀(x:J9) (y:ATup [.val false (.list 9 .str)]),wpFO Tryz.prog J0i.g (na ()) (fun _=>na ()) (Sx.look ([(75,Tryz.f75)]:List (Nat×Func))) Tryz.f119 J2k T x y
 | (E, C, G), (l, ()) => by
  refine Jix (by kernel_rfl) fun hp=> ?_
  have hl:1≤l.length:=Jdz.len hp
  have hk:Zc (l.getD 0 Jb)=true:=Jdz.key hp
  obtain⟨w,ws,rfl⟩:∃w ws,l=w::ws:=by
   cases l with
   |nil=>exact absurd hl (by decide)
   |cons w ws=>exact⟨w,ws,rfl⟩
  have hk:Zc w=true:=hk
  rcases Jai hk with rfl|rfl|rfl|rfl|rfl|rfl|rfl
  ·exact Ji8 T E C G ws
  ·exact Jrv T E C G ws
  ·exact Jrw T E C G ws
  ·exact Ji7 T E C G ws
  ·exact Ji6 T E C G ws
  ·exact Ji5 T E C G ws
  ·exact Ji4 T E C G ws
theorem Kx0:Ok Tryz.prog 119 (X9.con J2k):=Zd (Ul mixed J0i.ok (by kernel_rfl) (by kernel_rfl) (U6 (l:=([(75,Tryz.f75)]:List (Nat×Func))) (List.forall_mem_cons.2 ⟨by kernel_rfl,by simp⟩)) (fun _ _=>na ()) (fun _ _=>fun _=>na ()) fun T xx yy _=>Kun T xx yy)
abbrev Uee:=J0i.add Kx0
abbrev K73:=Uee.add J63
def doW (line:ByteArray):List ByteArray:=Za line ⟨⟨[32]⟩⟩
def do1 (line:ByteArray):Int:=Jg [bif decide (4096<(line.size:Int)) then 26 else 0,bif line.toList==Jb.toList then 25 else 0]
def do2 (h:J9) (ws:List ByteArray):Int:=Jg [bif !(Um ws).2 then 25 else 0,bif decide (1000≤(h.1.length:Int)) then 5 else 0]
def evD (h:J9) (ws:List ByteArray):Ev:=((h.1.length:Int)+1,(Um ws).1.2)
def Jwu (n:Int):ByteArray:=bs ([100,111,110,101,32]++(Ux n).data.toList)
def doF (h:J9) (line:ByteArray):J9×ByteArray×Int:=
 if do1 line≠0 then(h,Jb,do1 line) else
 if Zc ((doW line).getD 0 Jb)=true then(h,Zf (Ko h.2.2) (doW line)) else
 if Uo ((doW line).getD 0 Jb)=false then(h,Jb,13) else
 if do2 h (doW line)≠0 then(h,Jb,do2 h (doW line)) else
 if K3 h (evD h (doW line))≠0 then(h,Jb,K3 h (evD h (doW line))) else
 (Ho h (evD h (doW line)),Jwu ((h.1.length:Int)+1),0)
def cDo:X9:={T? :=some 212,s:=Jjh,args:=[aS],ress:=[tS,I],pre:=fun h (l,_)=>[Vs h,Zk h,l.size≤1000000],spec:=fun h (l,_)=>((doF h l).2.1,(doF h l).2.2,()),post:=fun h (l,_)=>(doF h l).1}
theorem J5a {l:ByteArray} (h:l.size≤1000000) (h4:l.size≤4096):1≤(doW l).length∧(doW l).length≤1000000∧∀w∈doW l,w.size≤1000000:=by
 have e:doW l=(Jax 32 l.data.toList).map bs:=F6 l 32
 have h1:=Ja6 32 l.data.toList
 have hl:l.data.toList.length=l.size:=rfl
 rw[e]
 refine⟨?_,by rw[List.length_map];omega,fun w hw=> ?_⟩
 ·rw[List.length_map]
  have:∀l:List UInt8,1≤(Jax 32 l).length:=by
   intro l
   induction l with
   |nil=>decide
   |cons c r ih=>unfold Jax;split<;>(try split)<;>simp only[List.length_cons,List.length_nil]<;>omega
  exact this _
 ·obtain⟨v,hv,rfl⟩:=List.mem_map.1 hw
  have:=Lu _ _ v hv
  rw[Va];omega
def Jz7 (a:Bt):=Za a H6
def K7u (a:Bt):=(Um (Jz7 a)).1.2
def K7r (a:Bt):=(K7u a).2
def K7e (a:Bt):=List.getD (Jz7 a) 0 B0
def K60 (a:Bt):=Tw (Bd 0 (Ln (Jz7 a)))
def K3h (a:Bt):=Jg [bif decide (4096<Nc (ByteArray.size a)) then 26 else 0,bif Lb a B0 then 25 else 0]
def K1v (a:Bt) (b:List Ev):=Jg [bif !(Um (Jz7 a)).2 then 25 else 0,bif decide (1000≤Ln b) then 5 else 0]
def Kol (a:List Ev) (b:Bt):=(Z5 a,(K7u b).1,(K7r b).1,E2 (K7r b).2)
def K0i (a b:List Ev) (c:List Reg) (d:Bt):=K3 (a,b,c) (Kol a d)
def K0h (a b:List Ev) (c:List Reg) (d:Bt):=Vi (a,b,c) (Kol a d)
def Kcx (a b:List Ev) (c:List Reg) (d:Bt):=((K0h a b c d).1,E2 (K0h a b c d).2)=(doF (a,b,c) d).1
theorem Ubc (E C:List Ev) (G:List Reg) (line:ByteArray):wpFO Tryz.prog K73.g (na ()) (fun _=>na ()) (Sx.look ([]:List (Nat×Func))) Tryz.f40 cDo 212 (E,C,G) (line,()):=by
 refine(by kernel_rfl:(Vs (E,C,G)→Zk (E,C,G)→ByteArray.size line≤1000000→Br false (Sf true (Sf 212 ((E,C,G)=(doF (E,C,G) line).1∧B0=(doF (E,C,G) line).2.1∧22=(doF (E,C,G) line).2.2))) (2≤1000000∧Br (K3h line !=0) (Sf true (Sf 212 ((E,C,G)=(doF (E,C,G) line).1∧B0=(doF (E,C,G) line).2.1∧K3h line=(doF (E,C,G) line).2.2))) ((ByteArray.size line≤1000000∧1≤1)∧K60 line∧Br (Option.isSome (Vv Sch.str (K7e line) Je6)) (Jdz (E,C,G) (Jz7 line)∧Sf true (Sf 212 ((E,C,G)=(doF (E,C,G) line).1∧(Zf (Ko G) (Jz7 line)).1=(doF (E,C,G) line).2.1∧(Zf (Ko G) (Jz7 line)).2=(doF (E,C,G) line).2.2))) (K60 line∧Br (!Option.isSome (Vv Sch.str (K7e line) L3)) (Sf true (Sf 212 ((E,C,G)=(doF (E,C,G) line).1∧B0=(doF (E,C,G) line).2.1∧13=(doF (E,C,G) line).2.2))) ((List.length (Jz7 line)≤1000000∧∀(w:ByteArray),w∈Jz7 line→ByteArray.size w≤1000000)∧2≤1000000∧Br (K1v line E !=0) (Sf true (Sf 212 ((E,C,G)=(doF (E,C,G) line).1∧B0=(doF (E,C,G) line).2.1∧K1v line E=(doF (E,C,G) line).2.2))) (Z76 E∧(Kp (E,C,G)∧Z45 E∧Jbn (Kol E line))∧Br (K0i E C G line !=0) (Sf true (Sf 212 (Kcx E C G line∧B0=(doF (E,C,G) line).2.1∧K0i E C G line=(doF (E,C,G) line).2.2))) ((Z76 E∧Nc (5+ByteArray.size (Ux (Z5 E)))≤9223372036854775807)∧Sf true (Sf 212 (Kcx E C G line∧ByteArray.mk (Array.mk (100::111::110::101::32::([]++(Ux (Z5 E)).data.toList)))=(doF (E,C,G) line).2.1∧0=(doF (E,C,G) line).2.2)))))))))=_).mp ?_
 delta Z5 Z45 Z76 H6 Jz7 K7u K7r K7e K60 K3h K1v Kol K0i K0h Kcx Br Iw Bd Tw Sf Ln Nc B0 Lb E2
 intro hi hn hsz
 have hbn:({data:={toList:=[]}}:ByteArray)=Jb:=rfl
 have hW:Za line {data:={toList:=[32]}}=doW line:=rfl
 have hd1:Jg [bif decide (4096<(line.size:Int)) then 26 else 0,bif line.toList==Jb.toList then 25 else 0]=do1 line:=rfl
 have hd2:Jg [bif !(Um (doW line)).2 then 25 else 0,bif decide (1000≤(E.length:Int)) then 5 else 0]=do2 (E,C,G) (doW line):=rfl
 have hq:(Vv Sch.str ((doW line).getD 0 Jb) Je6).isSome=Zc ((doW line).getD 0 Jb):=rfl
 have hk:(Vv Sch.str ((doW line).getD 0 Jb) L3).isSome=Uo ((doW line).getD 0 Jb):=rfl
 have he:((E.length:Int)+1,(Um (doW line)).1.2)=evD (E,C,G) (doW line):=rfl
 simp only[hbn,hW,Prod.eta,hd1,hd2,hq,hk,he]
 have nE:E.length≤1000:=hi.ok.nE
 refine⟨fun h=>(nomatch h),fun _=>⟨by decide,fun h1=> ?_,fun h1=> ?_⟩⟩
 ·have e:doF (E,C,G) line=((E,C,G),Jb,do1 line):=by unfold doF;rw[if_pos (bne_iff_ne.1 h1)]
  rw[e];exact⟨trivial,trivial,rfl,rfl,rfl⟩
 have e1:do1 line=0:=bne_eq_false_iff_eq.1 h1
 have h4:line.size≤4096:=by
  cases hc:decide (4096<(line.size:Int)) with
  |false=>have:=of_decide_eq_false hc;omega
  |true=>rw[do1,hc] at e1;exact nomatch (show(26:Int)=0 from e1)
 obtain⟨w1,w2,w3⟩:=J5a hsz h4
 refine⟨⟨hsz,Nat.le_refl _⟩,by omega,fun h2=> ?_,fun h2=>⟨by omega,fun h3=> ?_,fun h3=> ?_⟩⟩
 ·have e:doF (E,C,G) line=((E,C,G),Zf (Ko G) (doW line)):=by unfold doF;rw[if_neg (by rw[e1];decide),if_pos h2]
  rw[e];exact⟨⟨hi.ok,hn,w1,h2,w2,w3⟩,trivial,trivial,rfl,rfl,rfl⟩
 ·have h3:Uo ((doW line).getD 0 Jb)=false:=by simpa using h3
  have e:doF (E,C,G) line=((E,C,G),Jb,13):=by unfold doF;rw[if_neg (by rw[e1];decide),if_neg (by rw[h2];decide),if_pos h3]
  rw[e];exact⟨trivial,trivial,rfl,rfl,rfl⟩
 have h3:Uo ((doW line).getD 0 Jb)=true:=by simpa using h3
 refine⟨⟨w2,w3⟩,by decide,fun h5=> ?_,fun h5=> ?_⟩
 ·have e:doF (E,C,G) line=((E,C,G),Jb,do2 (E,C,G) (doW line)):=by unfold doF;rw[if_neg (by rw[e1];decide),if_neg (by rw[h2];decide),if_neg (by rw[h3];decide),if_pos (bne_iff_ne.1 h5)]
  rw[e];exact⟨trivial,trivial,rfl,rfl,rfl⟩
 have e5:do2 (E,C,G) (doW line)=0:=bne_eq_false_iff_eq.1 h5
 have hE:E.length<1000:=by
  cases hc:decide (1000≤(E.length:Int)) with
  |false=>have:=of_decide_eq_false hc;omega
  |true=>
   rw[do2] at e5
   have hc:decide (1000≤(((E,C,G):J9).1.length:Int))=true:=hc
   rw[hc] at e5
   cases hx:(Um (doW line)).2<;>rw[hx] at e5<;>exact nomatch e5
 have hz:=Jd3 w3
 have hsz2:Jbn (evD (E,C,G) (doW line)):=⟨Nat.le_trans hz.1 (by decide),Nat.le_trans hz.2.1 (by decide),hz.2.2⟩
 refine⟨by omega,⟨hi.ok,hE,hsz2⟩,fun h6=> ?_,fun h6=> ?_⟩
 ·have n6:=bne_iff_ne.1 h6
  have e:doF (E,C,G) line=((E,C,G),Jb,K3 (E,C,G) (evD (E,C,G) (doW line))):=by unfold doF;rw[if_neg (by rw[e1];decide),if_neg (by rw[h2];decide),if_neg (by rw[h3];decide),if_neg (by rw[e5];decide),if_pos n6]
  have ea:Vi (E,C,G) (evD (E,C,G) (doW line))=(E,C,G):=by unfold Vi;rw[if_neg n6]
  rw[e,ea];exact⟨trivial,trivial,rfl,rfl,rfl⟩
 ·have e6:K3 (E,C,G) (evD (E,C,G) (doW line))=0:=bne_eq_false_iff_eq.1 h6
  have e:doF (E,C,G) line=(Ho (E,C,G) (evD (E,C,G) (doW line)),Jwu ((E.length:Int)+1),0):=by unfold doF;rw[if_neg (by rw[e1];decide),if_neg (by rw[h2];decide),if_neg (by rw[h3];decide),if_neg (by rw[e5];decide),if_neg (by rw[e6];decide)]
  have ea:Vi (E,C,G) (evD (E,C,G) (doW line))=Ho (E,C,G) (evD (E,C,G) (doW line)):=by unfold Vi;rw[if_pos e6]
  have hi:=Jbi ((E.length:Int)+1) (by omega) (by omega)
  rw[e,ea];exact⟨⟨by omega,by omega⟩,trivial,trivial,rfl,rfl,rfl⟩
theorem Ucj:Ok Tryz.prog 40 (X9.con cDo):=Zd (Ul mixed K73.ok (by kernel_rfl) (by kernel_rfl) (U6 (l:=([]:List (Nat×Func))) (by simp)) (fun xx yy=>na ()) (fun xx yy=>fun _=>na ()) fun T xx yy hT=>by obtain rfl:=hT _ rfl;exact Ubc xx.1 xx.2.1 xx.2.2 yy.1)
abbrev Kty:=K73.add Ucj
theorem Kh9 {h:J9} {l:ByteArray} (hi:Vs h) (hn:Zk h):Vs (doF h l).1∧Zk (doF h l).1:=by
 unfold doF
 split
 ·exact⟨hi,hn⟩
 split
 ·exact⟨hi,hn⟩
 split
 ·exact⟨hi,hn⟩
 split
 ·exact⟨hi,hn⟩
 split
 ·exact⟨hi,hn⟩
 rename_i h5 h6
 have e5:do2 h (doW l)=0:=Decidable.of_not_not h5
 have hE:h.1.length<1000:=by
  cases hc:decide (1000≤(h.1.length:Int)) with
  |false=>have:=of_decide_eq_false hc;omega
  |true=>
   rw[do2,hc] at e5
   cases hx:(Um (doW l)).2<;>rw[hx] at e5<;>exact nomatch e5
 exact⟨Jb0 hi hE (Decidable.of_not_not h6),Kkn hn (Decidable.of_not_not h6)⟩
abbrev Kus:Sch:= .prod .str (.prod .str sI)
abbrev Say:=ByteArray×ByteArray×Int
def J4u:Say:=(Jb,Jb,0)
def Kur (r:ByteArray×Int) (x:Say):Bool:=bif r.1.toList !=x.2.1.toList then true else r.2 !=x.2.2
def Jeh:J9→List Say→J9×Bool
 |h,[]=>(h,true)
 |h,x::l=>bif Kur (doF h x.1).2 x then((doF h x.1).1,false) else Jeh (doF h x.1).1 l
def Ke0:X9:={T? :=some 212,s:=Jjh,args:=[.val false (.list 147 Kus)],ress:=[Bo],pre:=fun h (l,_)=>[Vs h,Zk h,l.length≤1000000,∀x∈l,x.1.size≤1000000],spec:=fun h (l,_)=>((Jeh h l).2,()),post:=fun h (l,_)=>(Jeh h l).1}
abbrev Jx7 (h0:J9) (l:List Say):Ann:={X:=J9×Nat,σ:=fun(h,k)=>⟨6,[(0, .one (.ptr 1 0)),(11, .one (.sl 5)),(12, .one (.int .i64 l.length)),(13, .one (.int .i64 k))],[(0, .sus [(0, .one (.ptr 1 0))]),(1, .box 212 [.sl 2, .sl 3, .sl 4]),(2, .own 67 sEv h.1),(3, .own 67 sEv h.2.1),(4, .own 105 Jkq h.2.2),(5, .imm 147 Kus l)]⟩,inv:=fun(h,k)=>Vs h∧Zk h∧k≤l.length∧Jeh h (l.drop k)=Jeh h0 l,mu:=fun(_,k)=>l.length-k}
def Kmw (a:List Say) (b:J9×Nat):=List.getD a b.2 (B0,B0,0)
def Kl3 (a:J9×Nat) (b:List Say):=doF (Jm1 a) (Kmw b a).1
def K3s (a:J9×Nat) (b:List Say):=(Kl3 a b).2
def Kqv (a:J9×Nat) (b:List Say):=(Kl3 a b).1.2
theorem K78 (E C:List Ev) (G:List Reg) (l:List Say):wpFO Tryz.prog Kty.g (Y4 (Jx7 (E,C,G) l)) (fun _=>na ()) (Sx.look ([]:List (Nat×Func))) Tryz.f66 Ke0 212 (E,C,G) (l,()):=by
 refine(by kernel_rfl:(Vs (E,C,G)→Zk (E,C,G)→List.length l≤1000000→(∀(x:ByteArray×ByteArray×Int),x∈l→ByteArray.size x.1≤1000000)→Br false (Sf true (Sf 212 ((E,C,G)=(Jeh (E,C,G) l).1∧false=(Jeh (E,C,G) l).2))) (∃(x:(List Ev×List Ev×List Reg)×Nat),Si (Ln l) (0=Nc x.2∧E=x.1.1∧C=x.1.2.1∧G=x.1.2.2∧l=l)∧(Vs x.1∧Zk x.1∧x.2≤List.length l∧Jeh x.1 (List.drop x.2 l)=Jeh (E,C,G) l)∧∀(x:J9×Nat),Vs x.1∧Zk x.1∧x.2≤List.length l∧Jeh x.1 (List.drop x.2 l)=Jeh (E,C,G) l→Br (decide (Nc x.2<Ln l)) (Tw (Bd (Nc x.2) (Ln l))∧(Vs (Jm1 x)∧Zk (Jm1 x)∧ByteArray.size (Kmw l x).1≤1000000)∧Br (bif !Lb (K3s x l).1 (Kmw l x).2.1 then true else(K3s x l).2 !=(Kmw l x).2.2) (Sf true (Sf 212 (((Kl3 x l).1.1,E2 (Kqv x l))=(Jeh (E,C,G) l).1∧false=(Jeh (E,C,G) l).2))) (Z50 x∧∃(y:(List Ev×List Ev×List Reg)×Nat),Si (Ln l) (Jpb x y∧(Kl3 x l).1.1=y.1.1∧(Kqv x l).1=y.1.2.1∧(Kqv x l).2=y.1.2.2∧l=l)∧(Vs y.1∧Zk y.1∧y.2≤List.length l∧Jeh y.1 (List.drop y.2 l)=Jeh (E,C,G) l)∧List.length l-y.2<List.length l-x.2)) (Sf true (Sf 212 (Jm1 x=(Jeh (E,C,G) l).1∧true=(Jeh (E,C,G) l).2)))))=_).mp ?_
 delta Z50 Jpb Jm1 Kmw Kl3 K3s Kqv Br Iw Bd Tw Sf Si Ln Nc B0 Lb E2
 intro hi hn hl hsz
 refine⟨fun h=>(nomatch h),fun _=>⟨((E,C,G),(0:Nat)),by simp,⟨hi,hn,Nat.zero_le _,rfl⟩,fun(x:J9×Nat) hx=>⟨fun hlt=> ?_,fun hlt=> ?_⟩⟩⟩
 ·obtain⟨h,k⟩:=x
  obtain⟨k1,k2,k3,k4⟩:=hx
  have hlt:k<l.length:=by simpa using hlt
  dsimp only at k1 k2 k3 k4
  have hz:(({data:={toList:=[]}}:ByteArray),({data:={toList:=[]}}:ByteArray),(0:Int))=J4u:=rfl
  simp only[hz,Prod.eta]
  rw[Jq (d:=J4u) hlt,Jeh] at k4
  have hd:=Kh9 (l:=(l.getD k J4u).1) k1 k2
  refine⟨by omega,⟨k1,k2,hsz _ (Je hlt)⟩,fun h1=> ?_,fun h1=> ?_⟩
  ·have e:Kur (doF h (l.getD k J4u).1).2 (l.getD k J4u)=true:=h1
   rw[e,cond_true] at k4
   rw[←k4]
   exact⟨trivial,trivial,rfl,rfl⟩
  ·have e:Kur (doF h (l.getD k J4u).1).2 (l.getD k J4u)=false:=h1
   rw[e,cond_false] at k4
   exact⟨by omega,((doF h (l.getD k J4u).1).1,k+1),by simp,⟨hd.1,hd.2,by(first|omega|dsimp only;omega),k4⟩,by(first|omega|dsimp only;omega)⟩
 ·obtain⟨h,k⟩:=x
  obtain⟨k1,k2,k3,k4⟩:=hx
  have hlt:¬k<l.length:=by simpa using hlt
  have e:k=l.length:=by dsimp only at k3;omega
  rw[e,List.drop_length,Jeh] at k4
  rw[←k4]
  exact⟨rfl,rfl,rfl,rfl⟩
theorem Ub9:Ok Tryz.prog 66 (X9.con Ke0):=Zd (Ul mixed Kty.ok (by kernel_rfl) (by kernel_rfl) (U6 (l:=([]:List (Nat×Func))) (by simp)) (fun xx yy=>Y4 (Jx7 (xx.1,xx.2.1,xx.2.2) yy.1)) (fun xx yy=>fun _=>na ()) fun T xx yy hT=>by obtain rfl:=hT _ rfl;exact K78 xx.1 xx.2.1 xx.2.2 yy.1)
abbrev K9t:=Kty.add Ub9
def Ki1:Con:={args:=[.val false (.list 130 Hj), .fn [(true,Hj)] (true,Jji)],ress:=[(false, .list 129 Jji)],owns:=[true],pre:=fun(l,(q,_),_)=>[l.length≤1000000,∀x∈l,Up (q (x,()))],spec:=fun(l,(_,f),_)=>(l.map fun x=>f (x,()),())}
def Kma (a:Ord×Unit→Jpl) (b:Nat) (c:List Ord):=List.map (fun(x:Ord)=>a (x,PUnit.unit)) (List.take b c)
def K1j (a:Ord×Unit→Jpl) (b:Nat) (c:List Ord):=List.length (Kma a b c)
def Kc1 (a:Ord×Unit→Jpl) (b:List Ord) (c:Nat):=a (Jy9 b c)
def Kc0 (a:Ord×Unit→Jpl) (b:List Ord) (c:Nat):=(Kc1 a b c).2
def Kcz (a:Ord×Unit→Jpl) (b:List Ord) (c:Nat):=(Kc0 a b c).2
def Kcy (a:Ord×Unit→Jpl) (b:List Ord) (c:Nat):=(Kcz a b c).2
theorem Kxu:Ok Tryz.prog 125 Ki1:=okW K9t Tryz.f125 (fun xx=>Y4 (Jbz 130 129 Hj xx.1 (true,Jji) true xx.2.1.1 xx.2.1.2)) fun xx=>by
 obtain⟨(l:List Ord),⟨(q:Ord×Unit→List Prop),(f:Ord×Unit→Jpl)⟩,_⟩:=xx
 refine(by kernel_rfl:(Z64 l→Ksc l q→∃(x:Nat),Si (Ln l) (0=Nc x∧Sf l ((fun(x:Ord×PUnit)=>q x)=q∧(fun(x:Ord×PUnit)=>f x)=f∧K1j f x l=0))∧x≤List.length l∧∀(x:Nat),x≤List.length l→Br (decide (Nc x<Ln l)) (Tw (Bd (Nc x) (Ln l))∧(J3y q l x∧(K1j f x l+1)*56≤140737488355328)∧Z20 x∧∃(y:Nat),Si (Ln l) (Vm x y∧Sf l ((fun(x:Ord×PUnit)=>q x)=q∧(fun(x:Ord×PUnit)=>f x)=f∧Kma f x l++((Kc1 f l x).1,(Kc0 f l x).1,(Kcz f l x).1,(Kcy f l x).1,E2 (Kcy f l x).2)::Kss=Kma f y l))∧y≤List.length l∧J58 l y x) (Kma f x l=List.map (fun(x:Ord)=>f (x,PUnit.unit)) l))=_).mp ?_
 delta Z20 Z64 Z83 Vm J58 Jem Kss Kfz Ksc J9n Kmo Kmn Kmm Kml Kmk Kfs Kmi Kmg Kfp Kma K1j Jy9 Kc1 Kc0 Kcz Kcy J3y Br Iw Bd Tw Sf Si Ln Nc B0 E2
 intro hb hq
 refine⟨(0:Nat),⟨rfl,rfl,rfl,rfl,rfl,by simp⟩,Nat.zero_le _,fun(k:Nat) hk=>⟨fun h=> ?_,fun h=> ?_⟩⟩
 ·have hlt:k<l.length:=by simpa using h
  refine⟨by omega,⟨hq (l.getD k Jo) (Je hlt),by simp only[List.length_map,List.length_take];omega⟩,by omega,(k+1:Nat),⟨rfl,by simp,rfl,rfl,rfl, ?_⟩,by omega,by omega⟩
  rw[←Km (d:=Jo) hlt,List.map_append];rfl
 ·have hlt:¬k<l.length:=by simpa using h
  rw[List.take_of_length_le (by omega)]
abbrev Ued:=K9t.add Kxu
def Hi (l:List Ev):List Jpl:=(J7 l).2.2.2.1.map (J0 (J7 l).2.1 (J7 l).2.2.2.2.1)
abbrev K9s:=Ued
def Jmy (l:List Ev) (a b:ByteArray):Int:=Jg [opE l [a,b],bif a.toList==b.toList then 24 else 0]
def Jyb (l:List Ev) (a b:ByteArray):Int:=if Jmy l a b=0 then Hp (J7 l).2.1 (J7 l).2.2.2.1 (J7 l).2.2.2.2.1 a b else 0
def J8m:Con:={args:=[.val false (.list 67 sEv),aS,aS],ress:=[I,I],owns:=[],pre:=fun(l,_)=>[lOk l],spec:=fun(l,a,b,_)=>(Jyb l a b,Jmy l a b,())}
def K6l (a:List Ev) (b c:Bt):=Jg [opE a [b,c],bif Lb b c then 24 else 0]
theorem Ucg:Ok Tryz.prog 44 J8m:=okW K9s Tryz.f44 na fun xx=>by
 obtain⟨(l:List Ev),(a:ByteArray),(b:ByteArray),_⟩:=xx
 refine(by kernel_rfl:(lOk l→(lOk l∧2≤1000000)∧2≤1000000∧Br (K6l l a b !=0) (0=Jyb l a b∧K6l l a b=Jmy l a b) (Jzy l∧Hp (J7 l).2.1 (J7 l).2.2.2.1 (J7 l).2.2.2.2.1 a b=Jyb l a b∧0=Jmy l a b))=_).mp ?_
 delta K6l Jzz Jzy Br Lb E2
 intro hl
 refine⟨⟨hl,by decide⟩,by decide,fun h=> ?_,fun h=> ?_⟩
 ·have h:Jmy l a b≠0:=bne_iff_ne.1 h
  exact⟨by unfold Jyb;rw[if_neg h],rfl⟩
 ·have h:Jmy l a b=0:=bne_eq_false_iff_eq.1 h
  exact⟨Jcd,by unfold Jyb;rw[if_pos h],h.symm⟩
abbrev Uec:=K9s.add Ucg
abbrev K9r:=Uec
def Jcg (l:List Ev):(Int×Int)×Int:=if opE l []=0 then Kh4 (J7 l).2.1 (J7 l).2.2.2.1 (J7 l).2.2.2.2.1 else((0,0),opE l [])
def J76:Con:={args:=[.val false (.list 67 sEv)],ress:=[(true,La),I],owns:=[],pre:=fun(l,_)=>[lOk l],spec:=fun(l,_)=>((Jcg l).1,(Jcg l).2,())}
abbrev Jx5 (l:List Ev) (B:List Jpl):Ann:={X:=Nat×Int×Int,σ:=fun(k,s,g)=>⟨9,[(2, .one (.ptr 1 0)),(6, .one (.int .i64 s)),(7, .one (.int .i64 g)),(23, .one (.sl 8)),(24, .one (.int .i64 B.length)),(25, .one (.int .i64 k))],[(1, .box 54 [.int .i64 0, .int .i64 0]),(8, .own 129 Jji B)]⟩,inv:=fun(k,s,g)=>k≤B.length∧(0≤s∧s≤48000*k)∧(0≤g∧g≤s)∧Jul (B.drop k) (s,g)=Jul B (0,0),mu:=fun(k,_)=>B.length-k}
def K2z (a:List Ev):=List.map (fun(x:Ord)=>J0 (J7 a).2.1 (J7 a).2.2.2.2.1 x) (J7 a).2.2.2.1
def K2v (a:List Ev) (b:Nat×Int×Int):=(List.getD (Hi a) b.1 Kgk).2.2
def K2q (a:Nat×Int×Int) (b:List Ev):=a.2.1+(K2v b a).1
def K2n (a:Nat×Int×Int) (b:List Ev):=a.2.2+(K2v b a).2.1
def Koq (a:Nat×Int×Int) (b:List Ev):=a.1≤List.length (Hi b)∧(0≤a.2.1∧a.2.1≤48000*Nc a.1)∧(0≤a.2.2∧a.2.2≤a.2.1)∧Jul (List.drop a.1 (Hi b)) (E2 a.2)=Jul (Hi b) (0,0)
theorem Ucf:Ok Tryz.prog 46 J76:=okW K9r Tryz.f46 (fun xx=>Y4 (Jx5 xx.1 (Hi xx.1))) fun xx=>by
 obtain⟨(l:List Ev),_⟩:=xx
 refine(by kernel_rfl:(lOk l→(lOk l∧0≤1000000)∧Br (opE l [] !=0) ((0,0)=(Jcg l).1∧opE l []=(Jcg l).2) ((List.length (J7 l).2.2.2.1≤1000000∧∀(x:Ord),x∈(J7 l).2.2.2.1→Jzy l∧x∈(J7 l).2.2.2.1)∧∃(x:Nat×Int×Int),(0=x.2.1∧0=x.2.2∧Ln (K2z l)=Ln (Hi l)∧0=Nc x.1∧Si 0 (Si 0 (K2z l=Hi l)))∧Koq x l∧∀(x:Nat×Int×Int),Koq x l→Br (decide (Nc x.1<Ln (Hi l))) (Tw (Bd (Nc x.1) (Ln (Hi l)))∧Iw (K2q x l)∧Iw (K2n x l)∧Iw (Nc x.1+1)∧∃(y:Nat×Int×Int),(K2q x l=y.2.1∧K2n x l=y.2.2∧Si (Ln (Hi l)) (Nc x.1+1=Nc y.1∧Si 0 (Si 0 (Hi l=Hi l))))∧Koq y l∧List.length (Hi l)-y.1<List.length (Hi l)-x.1) (Br (x.2.1==0) ((0,0)=(Jcg l).1∧6=(Jcg l).2) ((Iw (x.2.1-x.2.2)∧(0≤x.2.1-x.2.2∧x.2.1-x.2.2≤1000000000000)∧1≤x.2.1∧x.2.1≤1000000000000)∧E2 (J44 (x.2.1-x.2.2) x.2.1)=(Jcg l).1∧0=(Jcg l).2))))=_).mp ?_
 delta Z83 Kgk Jzz Jzy K2z K2v K2q K2n Koq Br Iw Bd Tw Si Ln Nc B0 E2
 intro hl
 have hr:=Jcd (l:=l)
 have nO:(J7 l).2.2.2.1.length≤32:=hr.nO
 simp only[Prod.eta]
 refine⟨⟨hl,by decide⟩,fun h=> ?_,fun h=>⟨⟨Nat.le_trans nO (by decide),fun x hx=>⟨hr,hx⟩⟩, ?_⟩⟩
 ·have h:=bne_iff_ne.1 h
  unfold Jcg;rw[if_neg h]
  exact⟨rfl,rfl⟩
 have h:opE l []=0:=bne_eq_false_iff_eq.1 h
 have hB:∀b∈Hi l,J6i b:=fun b hb=>by
  obtain⟨x,hx,rfl⟩:=List.mem_map.1 hb
  exact L0 hr hx
 have nB:(Hi l).length≤32:=by unfold Hi;rw[List.length_map];exact nO
 refine⟨((0:Nat),0,0),by(repeat' first|exact rfl|exact⟨⟩|apply And.intro|omega|dsimp only;omega),⟨Nat.zero_le _,by(first|omega|dsimp only;omega),by(first|omega|dsimp only;omega),rfl⟩,fun(x:Nat×Int×Int) hk=>⟨fun h1=> ?_,fun h1=> ?_⟩⟩
 ·obtain⟨k,s,g⟩:=x
  have hlt:k<(Hi l).length:=by simpa using h1
  have hx:=Je (d:=Jo0) hlt
  have hb:=hB _ hx
  obtain⟨k1,k2,k3,k4⟩:=hk
  rw[Jq (d:=Jo0) hlt,Jul] at k4
  have m1:=hb.sent
  have m2:=hb.got
  have hzb:((({data:={toList:=[]}}:ByteArray),(0:Int),(0:Int),(0:Int),(0:Int),(0:Int)):Jpl)=Jo0:=rfl
  dsimp only at k1 k2 k3 k4
  simp only[hzb]
  exact⟨by omega,by omega,by omega,by omega,(k+1,s+((Hi l).getD k Jo0).2.2.1,g+((Hi l).getD k Jo0).2.2.2.1),by simp,⟨by(first|omega|dsimp only;omega),by(first|omega|dsimp only;omega),by(first|omega|dsimp only;omega),k4⟩,by(first|omega|dsimp only;omega)⟩
 ·obtain⟨k,s,g⟩:=x
  have hlt:¬k<(Hi l).length:=by simpa using h1
  obtain⟨k1,k2,k3,k4⟩:=hk
  have:k=(Hi l).length:=by dsimp only at k1;omega
  rw[this,List.drop_length,Jul] at k4
  have e:Jcg l=if s=0 then((0,0),6) else(J44 (s-g) s,0):=by
   unfold Jcg Kh4
   rw[if_pos h]
   rw[show((J7 l).2.2.2.1.map (J0 (J7 l).2.1 (J7 l).2.2.2.2.1))=Hi l from rfl,←k4]
  dsimp only at k2 k3
  rw[e]
  refine⟨fun h2=> ?_,fun h2=> ?_⟩
  ·have h2:s=0:=by simpa using h2
   rw[if_pos h2]
   exact⟨rfl,rfl⟩
  ·have h2:s≠0:=by simpa using h2
   rw[if_neg h2]
   refine⟨⟨?_, ?_, ?_⟩,rfl,rfl⟩
   all_goals dsimp only
   all_goals (repeat' first|apply And.intro|omega)
abbrev K9q:=K9r.add Ucf
end Go.Proofs.YtcibbcfiemeoiaaGreatDoor

/- Contracts of the functions that the law reaches: part of the proof. -/
import Derived.Test.YtcibbcfiemeoiaaGreatDoorFA
import Derived.Shelf.Strconv.ErrVarAll
import Derived.Lib.ItoaLen
import Derived.Lib.ItoaMem
set_option linter.unusedSimpArgs false
set_option linter.unusedVariables false
set_option maxRecDepth 20000
namespace Go.Proofs.YtcibbcfiemeoiaaGreatDoor
open Go.Sx
set_option maxHeartbeats 20000000
abbrev Jqs:=ByteArray×Int×Int×Int×Int×Int
abbrev Jtx:Sch:= .prod .str (.prod sI (.prod sI (.prod sI (.prod sI sI))))
abbrev Jol:=Int×Int×Int×Int
def Db (M:List Met) (s:ByteArray) (h:Int):Met:=M.getD (Kz M s h).toNat Ji9
def Jj0 (st:Int) (M:List Met) (x:Ord):Int→Nat→Jol→Jol
 |_,0,a=>a
 |h,n+1,(c,s,g,f)=>Jj0 st M x (h+1) n (bif Jr x h&&decide (h<st) then(c+1,s+(Db M x.1 h).2.2.1,g+(Db M x.1 h).2.2.2,f+3*(x.2.2.2.2.1-(Db M x.1 h).2.2.2)) else(c,s,g,f))
def Lk (st:Int) (M:List Met) (x:Ord):Jol:=Jj0 st M x x.2.2.2.1.1 (Ur x) (0,0,0,0)
def Ut (st:Int) (M:List Met) (x:Ord):Jqs:=(x.1,(Lk st M x).1,(Lk st M x).2.1,(Lk st M x).2.2.1,(Lk st M x).2.2.1*x.2.2.2.2.2.1,(Lk st M x).2.2.2)
def Kqz:Con:={args:=[Jbf, .val true Hk],ress:=[(true,Jtx)],owns:=[],pre:=fun(r,x,_)=>[Jl r,x∈r.2.2.2.1],spec:=fun((_,st,_,_,M,_),x,_)=>(Ut st M x,())}
abbrev J5x (tk st:Int) (S:List Sta) (O:List Ord) (M:List Met) (X:List Out) (Q:List Per) (x:Ord):Ann:={X:=Nat×Jol,σ:=fun(j,c,s,g,f)=>⟨14,[(0, .one (.fv 12)),(1, .one (.ptr 10 0)),(3, .one (.int .i64 (x.2.2.2.1.1+j)))],[(0, .imm 127 Dk S),(1, .imm 130 Hk O),(2, .imm 155 Dx M),(3, .imm 188 X6 X),(4, .imm 235 Zy Q),(5, .box 105 [.int .i64 tk, .int .i64 st, .sl 0, .sl 1, .sl 2, .sl 3, .sl 4]),(6, .box 130 (bxO x)),(7, .box 129 [.str Ja, .int .i64 0, .int .i64 0, .int .i64 0, .int .i64 0, .int .i64 0]),(8, .box 129 [.str x.1, .int .i64 c, .int .i64 s, .int .i64 g, .int .i64 0, .int .i64 f]),(10, .box 130 (bxO x)),(12, .yld .ready),(13, .sus [(2, .one (.ptr 5 0)),(3, .one (.ptr 6 0)),(4, .one (.ptr 7 0)),(5, .one (.ptr 8 0))])]⟩,inv:=fun(j,c,s,g,f)=>j≤Ur x∧(0≤c∧c≤j)∧(0≤s∧s≤1000*j)∧(0≤g∧g≤1000*j)∧(-3000*j≤f∧f≤3000*j)∧Jj0 st M x (x.2.2.2.1.1+j) (Ur x-j) (c,s,g,f)=Lk st M x,mu:=fun(j,_)=>Ur x-j}
def J04 (a:Int) (b:Nat):=0≤a∧a≤1000*Nc b
def Kks (a:List Met) (b:Bt) (c:Int) (d:Nat×Jol):=(Gt a (Kz a b (c+Nc d.1)) Js1).2.2
def Kkd (a:Int) (b:List Met) (c:Bt) (d:Int) (e:Nat×Jol):=a-(Kks b c d e).2
def Kjy (a:Nat×Jol) (b:List Met) (c:Bt) (d:Int):=a.2.2.1+(Kks b c d a).1
def J8s (a:Nat×Jol) (b:List Met) (c:Bt) (d:Int):=a.2.2.2.1+(Kks b c d a).2
def Ki7 (a:Nat×Jol) (b:Int) (c:List Met) (d:Bt) (e:Int):=a.2.2.2.2+3*Kkd b c d e a
def Ktb (a:Nat) (b c d:Bt) (e f g h i j k l m n:Int) (o:List Met):=a≤Ur (b,c,d,(e,f),g,h,i)∧(0≤j∧j≤Nc a)∧J04 k a∧J04 l a∧((-3000)*Nc a≤m∧m≤3000*Nc a)∧Jj0 n o (b,c,d,(e,f),g,h,i) (e+Nc a) (Ur (b,c,d,(e,f),g,h,i)-a) (j,k,l,m)=Lk n o (b,c,d,(e,f),g,h,i)
def Ks6 (a:Nat×Int×Int×Int×Int) (b c d:Bt) (e f g h i j:Int) (k:List Met):=match a with|(j_1,c_1,s,g_1,f_1)=>Ktb j_1 b c d e f g h i c_1 s g_1 f_1 j k
def Ksw (a:Nat×Int×Int×Int×Int) (b c d:Bt) (e f g h i j:Int) (k:List Met) (l:Nat×Jol):=Ks6 a b c d e f g h i j k∧Ur (b,c,d,(e,f),g,h,i)-a.1<Ur (b,c,d,(e,f),g,h,i)-l.1
def J7e (a:Nat×Jol) (b:Int) (c:Bt) (d:Int) (e:List Met) (f g:Bt) (h i j k:Int) (l:List Sta) (m:List Ord) (n:List Out) (o:List Per) (p:Int):=Br false (Iw (a.2.2.2.1*b)∧Sf true ((c,a.2.1,a.2.2.1,a.2.2.2.1,a.2.2.2.1*b,a.2.2.2.2)=Ut d e (c,f,g,(h,i),j,b,k))) (Iw (h+Nc a.1+1)∧∃(y:Nat×Int×Int×Int×Int),(h+Nc a.1+1=h+Nc y.1∧Sf l (Sf m (Sf e (Sf n (Sf o (Si p (Si d (Sf c (Sf f (Sf g (Si h (Si i (Si j (Si b (Si k (Sf Ja (Si 0 (Si 0 (Si 0 (Si 0 (Si 0 (Sf c (a.2.1=y.2.1∧a.2.2.1=y.2.2.1∧a.2.2.2.1=y.2.2.2.1∧Si 0 (a.2.2.2.2=y.2.2.2.2∧Sf c (Sf f (Sf g (Si h (Si i (Si j (Si b (k=k)))))))))))))))))))))))))))))))∧Ksw y c f g h i j b k d e a)
theorem Kph:Ok Tryz.prog 126 Kqz:=Jzd K32 Tryz.f126 (U1 (l:=([(178,Tryz.f178),(247,Tryz.f247)]:List (Nat×Func))) (List.forall_mem_cons.2 ⟨by kernel_rfl,List.forall_mem_cons.2 ⟨by kernel_rfl,by simp⟩⟩)) (fun xx=>na ()) (fun xx=>fun f' id=>if f'=247 then some (J5x xx.1.1 xx.1.2.1 xx.1.2.2.1 xx.1.2.2.2.1 xx.1.2.2.2.2.1 xx.1.2.2.2.2.2.1 xx.1.2.2.2.2.2.2 (xx.2.1.1,xx.2.1.2.1,xx.2.1.2.2.1,(xx.2.1.2.2.2.1.1,xx.2.1.2.2.2.1.2),xx.2.1.2.2.2.2.1,xx.2.1.2.2.2.2.2.1,xx.2.1.2.2.2.2.2.2)) else none) fun xx=>by
 obtain⟨⟨(tk:Int),(st:Int),(S:List Sta),(O:List Ord),(M:List Met),(X:List Out),(Q:List Per)⟩,⟨(n:ByteArray),(f:ByteArray),(t:ByteArray),⟨(a:Int),(b:Int)⟩,(p:Int),(c:Int),(r:Int)⟩,_⟩:=xx
 refine(by kernel_rfl:(Jw tk st S O M X Q→(n,f,t,(a,b),p,c,r)∈O→∃(x:Nat×Int×Int×Int×Int),(a=a+Nc x.1∧Sf S (Sf O (Sf M (Sf X (Sf Q (Si tk (Si st (Sf n (Sf f (Sf t (Si a (Si b (Si p (Si c (Si r (B0=Ja∧Si 0 (Si 0 (Si 0 (Si 0 (Si 0 (Sf n (0=x.2.1∧0=x.2.2.1∧0=x.2.2.2.1∧Si 0 (0=x.2.2.2.2∧Sf n (Sf f (Sf t (Si a (Si b (Si p (Si c (r=r))))))))))))))))))))))))))))))∧Ks6 x n f t a b p c r st M∧∀(x:Nat×Jol),(match x with|(j,c_1,s,g,f_1)=>Ktb j n f t a b p c r c_1 s g f_1 st M)→Br (decide (a+Nc x.1<b)) (Br (Jr (n,f,t,(a,b),p,c,r) (a+Nc x.1)) (Br (decide (a+Nc x.1<st)) ((Jw tk st S O M X Q∧Tw (Bd (Kz M n (a+Nc x.1)) (Ln M)))∧Iw (x.2.1+1)∧Iw (Kjy x M n a)∧Iw (J8s x M n a)∧(Iw (Kkd p M n a x)∧Iw (3*Kkd p M n a x)∧Iw (Ki7 x p M n a))∧Br false (Iw (J8s x M n a*c)∧Sf true ((n,x.2.1+1,Kjy x M n a,J8s x M n a,J8s x M n a*c,Ki7 x p M n a)=Ut st M (n,f,t,(a,b),p,c,r))) (Iw (a+Nc x.1+1)∧∃(y:Nat×Int×Int×Int×Int),(a+Nc x.1+1=a+Nc y.1∧Sf S (Sf O (Sf M (Sf X (Sf Q (Si tk (Si st (Sf n (Sf f (Sf t (Si a (Si b (Si p (Si c (Si r (Sf Ja (Si 0 (Si 0 (Si 0 (Si 0 (Si 0 (Sf n (x.2.1+1=y.2.1∧Kjy x M n a=y.2.2.1∧J8s x M n a=y.2.2.2.1∧Si 0 (Ki7 x p M n a=y.2.2.2.2∧Sf n (Sf f (Sf t (Si a (Si b (Si p (Si c (r=r)))))))))))))))))))))))))))))))∧Ksw y n f t a b p c r st M x)) (J7e x c n st M f t a b p r S O X Q tk)) (J7e x c n st M f t a b p r S O X Q tk)) (Iw (x.2.2.2.1*c)∧Sf true ((n,x.2.1,x.2.2.1,x.2.2.2.1,x.2.2.2.1*c,x.2.2.2.2)=Ut st M (n,f,t,(a,b),p,c,r))))=_).mp ?_
 delta Z63 Z65 Js1 Jw J04 Kks Kkd Kjy J8s Ki7 Ktb Ks6 Ksw J7e Br Iw Bd Tw Sf Si Ln Nc Gt B0
 intro hr hx
 have hO:=hr.ord _ hx
 have hD:=hr.done _ hx
 have b0:=hO.span.lo
 have b1:=hO.span.mid
 have b2:=hO.span.hi
 have b3:=hO.span.len
 have bp:=hO.pow
 have bc:=hO.pri
 have hn:Ur (n,f,t,(a,b),p,c,r)≤48∧(Ur (n,f,t,(a,b),p,c,r):Int)=b-a:=by
  dsimp only at b1 b3
  unfold Ur
  constructor<;>dsimp only<;>omega
 dsimp only at b0 b1 b2 b3 bp bc hD
 refine⟨((0:Nat),(0,0,0,0)),by(repeat' first|exact rfl|apply And.intro|exact(Int.add_zero _).symm|omega|dsimp only;omega),⟨Nat.zero_le _,by omega,by omega,by omega,by omega, ?_⟩,fun(y:Nat×Jol) hy=>⟨fun h1=> ?_,fun h1=> ?_⟩⟩
 ·unfold Lk
  rw[Nat.sub_zero]
  simp only[Int.natCast_zero,Int.add_zero]
 ·obtain⟨j,c1,s1,g1,f1⟩:=y
  obtain⟨k1,k2,k3,k4,k5,k6⟩:=hy
  have h1:a+(j:Int)<b:=of_decide_eq_true h1
  have hj:Ur (n,f,t,(a,b),p,c,r)-j=(Ur (n,f,t,(a,b),p,c,r)-(j+1))+1:=by omega
  rw[hj,Jj0] at k6
  have hc:a+(j:Int)+1=a+((j+1:Nat):Int):=by omega
  have hB: -9223372036854775808≤a+(j:Int)+1∧a+(j:Int)+1≤9223372036854775807:=by omega
  refine⟨fun h2=>⟨fun h3=> ?_,fun h3=>⟨fun h=>(by cases h),fun _=>⟨hB,(j+1,c1,s1,g1,f1),by(repeat' first|exact rfl|apply And.intro|exact(Int.add_zero _).symm|omega|dsimp only;omega),⟨by(first|omega|dsimp only;omega),by(first|omega|dsimp only;omega),by(first|omega|dsimp only;omega),by(first|omega|dsimp only;omega),by(first|omega|dsimp only;omega), ?_⟩,by(first|omega|dsimp only;omega)⟩⟩⟩,fun h2=>⟨fun h=>(by cases h),fun _=>⟨hB,(j+1,c1,s1,g1,f1),by(repeat' first|exact rfl|apply And.intro|exact(Int.add_zero _).symm|omega|dsimp only;omega),⟨by(first|omega|dsimp only;omega),by(first|omega|dsimp only;omega),by(first|omega|dsimp only;omega),by(first|omega|dsimp only;omega),by(first|omega|dsimp only;omega), ?_⟩,by(first|omega|dsimp only;omega)⟩⟩⟩
  ·have h3':a+(j:Int)<st:=of_decide_eq_true h3
   have hm:0≤Kz M n (a+(j:Int)):=hD _ h2 h3'
   have hl:=Jas (l:=M) (s:=n) (h:=a+(j:Int))
   have hM:Jsm (Db M n (a+(j:Int))):=hr.met _ (Jc (show _<M.length by omega))
   have m1:=hM.sent
   have m2:=hM.got
   have e:M.getD (Kz M n (a+(j:Int))).toNat (Ja,0,0,0)=Db M n (a+(j:Int)):=rfl
   simp only[]
   rw[show(({data:={toList:=[]}}:ByteArray),(0:Int),(0:Int),(0:Int))=(Ja,0,0,0) from rfl,e]
   rw[h2,h3,Bool.true_and,cond_true] at k6
   refine⟨⟨hr,⟨hm,hl⟩,hm,hl⟩,by omega,by omega,by omega,⟨by omega,by omega,by omega⟩,fun h=>(by cases h),fun _=>⟨hB,(j+1,c1+1,s1+(Db M n (a+(j:Int))).2.2.1,g1+(Db M n (a+(j:Int))).2.2.2,f1+3*(p-(Db M n (a+(j:Int))).2.2.2)),by(repeat' first|exact rfl|apply And.intro|exact(Int.add_zero _).symm|omega|dsimp only;omega),⟨by(first|omega|dsimp only;omega),by(first|omega|dsimp only;omega),by(first|omega|dsimp only;omega),by(first|omega|dsimp only;omega),by(first|omega|dsimp only;omega), ?_⟩,by(first|omega|dsimp only;omega)⟩⟩
   rw[hc] at k6
   exact k6
  ·rw[h3,Bool.and_false,cond_false,hc] at k6
   exact k6
  ·rw[show Jr (n,f,t,(a,b),p,c,r) (a+(j:Int))=false from h2,Bool.false_and,cond_false,hc] at k6
   exact k6
 ·obtain⟨j,c1,s1,g1,f1⟩:=y
  obtain⟨k1,k2,k3,k4,k5,k6⟩:=hy
  have h1:¬a+(j:Int)<b:=of_decide_eq_false h1
  have hj:Ur (n,f,t,(a,b),p,c,r)-j=0:=by omega
  rw[hj,Jj0] at k6
  have q1:0≤g1*c:=Int.mul_nonneg k4.1 bc.1
  have q2:g1*c≤48000*1000:=Int.mul_le_mul (by omega) bc.2 bc.1 (by decide)
  refine⟨⟨by(first|omega|dsimp only;omega),by(first|omega|dsimp only;omega)⟩,rfl, ?_⟩
  unfold Ut
  rw[←k6]
abbrev K31:=K32.add Kph
def bd4 (k:Int) (a:Jol):Prop:=(0≤a.1∧a.1≤k)∧(0≤a.2.1∧a.2.1≤1000*k)∧(0≤a.2.2.1∧a.2.2.1≤a.2.1)∧-3000*k≤a.2.2.2∧a.2.2.2≤3000*k
theorem Jp2 {st:Int} {M:List Met} {x:Ord} (hp:1≤x.2.2.2.2.1∧x.2.2.2.2.1≤1000) (hM:∀m∈M,Jsm m) (hd:∀h,Jr x h=true→h<st→0≤Kz M x.1 h):∀(n:Nat) (h:Int) (a:Jol) (k:Int),bd4 k a→bd4 (k+n) (Jj0 st M x h n a)
 |0,_,_,k,ha=>by unfold Jj0;rw[show k+((0:Nat):Int)=k by omega];exact ha
 | n + 1, h, (c, s, g, f), k, ha => by
  unfold Jj0
  rw[show k+((n+1:Nat):Int)=(k+1)+n by omega]
  apply Jp2 hp hM hd n
  unfold bd4 at ha⊢
  dsimp only at ha
  cases hb:Jr x h&&decide (h<st) with
  |false=>simp only[cond_false];omega
  |true=>
   have h1:=Bool.and_eq_true_iff.1 hb
   have hm:0≤Kz M x.1 h:=hd h h1.1 (of_decide_eq_true h1.2)
   have hl:=Jas (l:=M) (s:=x.1) (h:=h)
   have hk:Jsm (Db M x.1 h):=hM _ (Jc (show _<M.length by omega))
   have m1:=hk.sent
   have m2:=hk.got
   simp only[cond_true]
   omega
theorem Jor {S:List Sta} {x:Ord} (h:Jcd S x):Ur x≤48:=by
 have:=h.span.len
 have:=h.span.mid
 unfold Ur
 omega
structure J3g (b:Jqs):Prop where
 hours:0≤b.2.1∧b.2.1≤48
 sent:0≤b.2.2.1∧b.2.2.1≤48000
 got:0≤b.2.2.2.1∧b.2.2.2.1≤b.2.2.1
 money:0≤b.2.2.2.2.1∧b.2.2.2.2.1≤48000000
 fine: -144000≤b.2.2.2.2.2∧b.2.2.2.2.2≤144000
theorem Ja6 {tk st:Int} {S:List Sta} {O:List Ord} {M:List Met} {X:List Out} {Q:List Per} {x:Ord} (hr:Jl (tk,st,S,O,M,X,Q)) (hx:x∈O):J3g (Ut st M x):=by
 have hO:=hr.ord _ hx
 have hs:=Jor hO
 have h:=Jp2 hO.pow hr.met (hr.done _ hx) (Ur x) x.2.2.2.1.1 (0,0,0,0) 0 (by unfold bd4;simp)
 have bc:=hO.pri
 unfold bd4 at h
 have h:(0≤(Lk st M x).1∧(Lk st M x).1≤0+(Ur x:Int))∧(0≤(Lk st M x).2.1∧(Lk st M x).2.1≤1000*(0+(Ur x:Int)))∧(0≤(Lk st M x).2.2.1∧(Lk st M x).2.2.1≤(Lk st M x).2.1)∧-3000*(0+(Ur x:Int))≤(Lk st M x).2.2.2∧(Lk st M x).2.2.2≤3000*(0+(Ur x:Int)):=h
 have q1:0≤(Lk st M x).2.2.1*x.2.2.2.2.2.1:=Int.mul_nonneg h.2.2.1.1 bc.1
 have q2:(Lk st M x).2.2.1*x.2.2.2.2.2.1≤48000*1000:=Int.mul_le_mul (by omega) bc.2 bc.1 (by decide)
 exact⟨by unfold Ut;(first|omega|dsimp only;omega),by unfold Ut;(first|omega|dsimp only;omega),by unfold Ut;(first|omega|dsimp only;omega),by unfold Ut;(first|omega|dsimp only;omega),by unfold Ut;(first|omega|dsimp only;omega)⟩
def Fd (x:Ord) (a b:ByteArray):Bool:=x.2.1.toList==a.toList&&(x.2.2.1.toList==b.toList&&true)
def Kcp (st:Int) (M:List Met) (a b:ByteArray) (x:Ord) (n:Int):Int:=(bif Fd x b a then(bif Fd x a b then n+((Ut st M x).2.2.2.2.1-(Ut st M x).2.2.2.2.2) else n)-((Ut st M x).2.2.2.2.1-(Ut st M x).2.2.2.2.2) else(bif Fd x a b then n+((Ut st M x).2.2.2.2.1-(Ut st M x).2.2.2.2.2) else n))
def Jxb (st:Int) (M:List Met) (a b:ByteArray):List Ord→Int→Int
 |[],n=>n
 |x::l,n=>Jxb st M a b l (Kcp st M a b x n)
def Di (st:Int) (O:List Ord) (M:List Met) (a b:ByteArray):Int:=Jxb st M a b O 0
def J0f:Con:={args:=[Jbf,aS,aS],ress:=[I],owns:=[],pre:=fun(r,_)=>[Jl r],spec:=fun((_,st,_,O,M,_),a,b,_)=>(Di st O M a b,())}
abbrev Kci (tk st:Int) (S:List Sta) (O:List Ord) (M:List Met) (X:List Out) (Q:List Per) (a b:ByteArray):Ann:={X:=Nat×Int,σ:=fun(k,n)=>⟨6,[(1, .one (.str a)),(2, .one (.str b)),(3, .one (.ptr 5 0)),(7, .one (.int .i64 n)),(13, .one (.sl 1)),(14, .one (.int .i64 O.length)),(15, .one (.int .i64 k))],[(0, .imm 127 Dk S),(1, .imm 130 Hk O),(2, .imm 155 Dx M),(3, .imm 188 X6 X),(4, .imm 235 Zy Q),(5, .box 105 [.int .i64 tk, .int .i64 st, .sl 0, .sl 1, .sl 2, .sl 3, .sl 4])]⟩,inv:=fun(k,n)=>k≤O.length∧(-100000000*k≤n∧n≤100000000*k)∧Jxb st M a b (O.drop k) n=Di st O M a b,mu:=fun(k,_)=>O.length-k}
def Kjt (a:List Ord) (b:Nat×Int) (c:Bt):=Lb (Ke4 a b) c
def Kjr (a:List Ord) (b:Nat×Int) (c:Bt):=Lb (Ke2 a b) c
def Kdw (a:List Ord) (b c:Nat×Int) (d:List Sta) (e:List Met) (f:List Out) (g:List Per) (h i:Int):=Si (Ln a) (Jqd b c d a e f g h i)
def Khk (a:Nat×Int) (b:List Ord) (c:Int) (d:List Met) (e f:Bt):=a.1≤List.length b∧((-100000000)*Nc a.1≤a.2∧a.2≤100000000*Nc a.1)∧Jxb c d e f (List.drop a.1 b) a.2=Di c b d e f
def Kg7 (a:List Ord) (b:Nat×Int) (c d:Bt):=Kjt a b c&&(Kjr a b d&&true)
def Kdj (a:Nat×Int) (b:List Ord) (c:Int) (d:List Met) (e f:Bt) (g:Nat×Int):=Khk a b c d e f∧List.length b-a.1<List.length b-g.1
def Ksv (a:Int) (b:List Met) (c:List Ord) (d:Nat×Int):=(Ut a b (J54 c d)).2.2.2.2
def Jxn (a:Int) (b:List Met) (c:List Ord) (d:Nat×Int):=(Ksv a b c d).1-(Ksv a b c d).2
def J1j (a:Int) (b:List Met) (c:List Ord) (d:Nat×Int):=Iw (Jxn a b c d)
def J1i (a:Nat×Int) (b:Int) (c:List Met) (d:List Ord):=a.2+Jxn b c d a
def J7j (a:Nat×Int) (b:Int) (c:List Met) (d:List Ord):=a.2-Jxn b c d a
def J63 (a:Nat×Int) (b:Int) (c:List Met) (d:List Ord):=J1i a b c d-Jxn b c d a
theorem Kpg:Ok Tryz.prog 127 J0f:=okW K31 Tryz.f127 (fun xx=>Xr (Kci xx.1.1 xx.1.2.1 xx.1.2.2.1 xx.1.2.2.2.1 xx.1.2.2.2.2.1 xx.1.2.2.2.2.2.1 xx.1.2.2.2.2.2.2 xx.2.1 xx.2.2.1)) fun xx=>by
 obtain⟨⟨(tk:Int),(st:Int),(S:List Sta),(O:List Ord),(M:List Met),(X:List Out),(Q:List Per)⟩,(a:ByteArray),(b:ByteArray),_⟩:=xx
 refine(by kernel_rfl:(Jw tk st S O M X Q→∃(x:Nat×Int),Sf a (Sf b (0=x.2∧Si (Ln O) (Jx8 x S O M X Q tk st)))∧Khk x O st M a b∧∀(x:Nat×Int),Khk x O st M a b→Br (decide (Nc x.1<Ln O)) (Tw (Bd (Nc x.1) (Ln O))∧(Jw tk st S O M X Q∧J54 O x∈O)∧Br (Kg7 O x a b) ((J1j st M O x∧Iw (J1i x st M O))∧Br (Kg7 O x b a) ((J1j st M O x∧Iw (J63 x st M O))∧Z37 x∧∃(y:Nat×Int),Sf a (Sf b (J63 x st M O=y.2∧Kdw O x y S M X Q tk st))∧Kdj y O st M a b x) (Z37 x∧∃(y:Nat×Int),Sf a (Sf b (J1i x st M O=y.2∧Kdw O x y S M X Q tk st))∧Kdj y O st M a b x)) (Br (Kg7 O x b a) ((J1j st M O x∧Iw (J7j x st M O))∧Z37 x∧∃(y:Nat×Int),Sf a (Sf b (J7j x st M O=y.2∧Kdw O x y S M X Q tk st))∧Kdj y O st M a b x) (Z37 x∧∃(y:Nat×Int),Sf a (Sf b (x.2=y.2∧Kdw O x y S M X Q tk st))∧Kdj y O st M a b x))) (x.2=Di st O M a b))=_).mp ?_
 delta Z37 Z63 Z65 Jsd Jw Jc3 Ke6 Ke5 Ke4 Ke3 Ke2 Ke1 Kez Kex Kew Kjt Kjr Jqe Jx8 Jqd Kdw Khk Kg7 Kdj J54 Ksv Jxn J1j J1i J7j J63 Br Iw Bd Tw Sf Si Ln Nc B0 Lb E2
 intro hr
 have nO:O.length≤32:=hr.nO
 refine⟨((0:Nat),(0:Int)),by(repeat' first|exact rfl|apply And.intro|exact(Int.add_zero _).symm|omega|dsimp only;omega),⟨Nat.zero_le _,by omega,rfl⟩,fun(x:Nat×Int) hk=>⟨fun h1=> ?_,fun h1=> ?_⟩⟩
 ·obtain⟨k,n⟩:=x
  have hlt:k<O.length:=by simpa using h1
  have hx:=Jc (d:=Ki) hlt
  have hb:=Ja6 hr hx
  obtain⟨k1,k2,k3⟩:=hk
  rw[Jq (d:=Ki) hlt,Jxb] at k3
  have m1:=hb.money
  have m2:=hb.fine
  have hz:((({data:={toList:=[]}}:ByteArray),({data:={toList:=[]}}:ByteArray),({data:={toList:=[]}}:ByteArray),((0:Int),(0:Int)),(0:Int),(0:Int),(0:Int)):Ord)=Ki:=rfl
  dsimp only at k1 k2 k3
  simp only[hz,Prod.eta]
  generalize O.getD k Ki=y at*
  have k3:Jxb st M a b (List.drop (k+1) O) (bif Fd y b a then(bif Fd y a b then n+((Ut st M y).2.2.2.2.1-(Ut st M y).2.2.2.2.2) else n)-((Ut st M y).2.2.2.2.1-(Ut st M y).2.2.2.2.2) else(bif Fd y a b then n+((Ut st M y).2.2.2.2.1-(Ut st M y).2.2.2.2.2) else n))=Di st O M a b:=k3
  refine⟨⟨⟨by omega,by omega⟩,by omega,by omega⟩,⟨hr,hx⟩,fun h2=>⟨⟨⟨by omega,by omega⟩,by omega,by omega⟩,fun h3=>⟨⟨⟨by omega,by omega⟩,by omega,by omega⟩,⟨⟨by omega,by omega⟩,(k+1,n+((Ut st M y).2.2.2.2.1-(Ut st M y).2.2.2.2.2)-((Ut st M y).2.2.2.2.1-(Ut st M y).2.2.2.2.2)),by(repeat' first|exact rfl|exact⟨⟩|apply And.intro|omega|dsimp only;omega),⟨by(first|omega|dsimp only;omega),by(first|omega|dsimp only;omega), ?_⟩,by(first|omega|dsimp only;omega)⟩⟩,fun h3=>⟨⟨by omega,by omega⟩,(k+1,n+((Ut st M y).2.2.2.2.1-(Ut st M y).2.2.2.2.2)),by(repeat' first|exact rfl|exact⟨⟩|apply And.intro|omega|dsimp only;omega),⟨by(first|omega|dsimp only;omega),by(first|omega|dsimp only;omega), ?_⟩,by(first|omega|dsimp only;omega)⟩⟩,fun h2=>⟨fun h3=>⟨⟨⟨by omega,by omega⟩,by omega,by omega⟩,⟨⟨by omega,by omega⟩,(k+1,n-((Ut st M y).2.2.2.2.1-(Ut st M y).2.2.2.2.2)),by(repeat' first|exact rfl|exact⟨⟩|apply And.intro|omega|dsimp only;omega),⟨by(first|omega|dsimp only;omega),by(first|omega|dsimp only;omega), ?_⟩,by(first|omega|dsimp only;omega)⟩⟩,fun h3=>⟨⟨by omega,by omega⟩,(k+1,n),by(repeat' first|exact rfl|exact⟨⟩|apply And.intro|omega|dsimp only;omega),⟨by(first|omega|dsimp only;omega),by(first|omega|dsimp only;omega), ?_⟩,by(first|omega|dsimp only;omega)⟩⟩⟩
  all_goals (have h2:Fd y a b=_:=h2;have h3:Fd y b a=_:=h3;rw[h2,h3] at k3;exact k3)
 ·obtain⟨k,n⟩:=x
  have hlt:¬k<O.length:=by simpa using h1
  obtain⟨k1,k2,k3⟩:=hk
  have:k=O.length:=by omega
  rw[this,List.drop_length,Jxb] at k3
  exact k3
abbrev K30:=K31.add Kpg
theorem Jxa {tk st:Int} {S:List Sta} {O:List Ord} {M:List Met} {X:List Out} {Q:List Per} {a b:ByteArray} (hr:Jl (tk,st,S,O,M,X,Q)):∀(l:List Ord) (n:Int),(∀x∈l,x∈O)→n-100000000*l.length≤Jxb st M a b l n∧Jxb st M a b l n≤n+100000000*l.length
 |[],n,_=>by simp[Jxb]
 | x :: l, n, h => by
  have hb:=Ja6 hr (h x (List.mem_cons_self ..))
  have ih:=Jxa (a:=a) (b:=b) hr l (Kcp st M a b x n) fun y hy=>h y (List.mem_cons_of_mem _ hy)
  have m1:=hb.money
  have m2:=hb.fine
  have hd:n-100000000≤Kcp st M a b x n∧Kcp st M a b x n≤n+100000000:=by
   unfold Kcp
   cases Fd x a b<;>cases Fd x b a<;>simp only[cond_true,cond_false]<;>omega
  simp only[List.length_cons]
  unfold Jxb
  omega
theorem Jqb {tk st:Int} {S:List Sta} {O:List Ord} {M:List Met} {X:List Out} {Q:List Per} {a b:ByteArray} (hr:Jl (tk,st,S,O,M,X,Q)): -3200000000≤Di st O M a b∧Di st O M a b≤3200000000:=by
 have h:=Jxa (a:=a) (b:=b) hr O 0 fun _ h=>h
 have nO:O.length≤32:=hr.nO
 unfold Di
 omega
def Jx4 (st:Int) (O:List Ord) (M:List Met) (s:ByteArray):List Sta→Int→Int
 |[],n=>n
 |x::l,n=>Jx4 st O M s l (bif x.1.toList !=s.toList then n+Di st O M s x.1 else n)
def Jwn (st:Int) (S:List Sta) (O:List Ord) (M:List Met) (s:ByteArray):Int:=Jx4 st O M s S 0
def J0c:Con:={args:=[Jbf,aS],ress:=[I],owns:=[],pre:=fun(r,_)=>[Jl r],spec:=fun((_,st,S,O,M,_),s,_)=>(Jwn st S O M s,())}
abbrev Kch (tk st:Int) (S:List Sta) (O:List Ord) (M:List Met) (X:List Out) (Q:List Per) (s:ByteArray):Ann:={X:=Nat×Int,σ:=fun(k,n)=>⟨6,[(1, .one (.str s)),(2, .one (.ptr 5 0)),(5, .one (.int .i64 n)),(9, .one (.sl 0)),(10, .one (.int .i64 S.length)),(11, .one (.int .i64 k))],[(0, .imm 127 Dk S),(1, .imm 130 Hk O),(2, .imm 155 Dx M),(3, .imm 188 X6 X),(4, .imm 235 Zy Q),(5, .box 105 [.int .i64 tk, .int .i64 st, .sl 0, .sl 1, .sl 2, .sl 3, .sl 4])]⟩,inv:=fun(k,n)=>k≤S.length∧(-3200000000*k≤n∧n≤3200000000*k)∧Jx4 st O M s (S.drop k) n=Jwn st S O M s,mu:=fun(k,_)=>S.length-k}
def Kli (a:List Sta) (b:Nat×Int):=(List.getD a b.1 Z8).1
def Khl (a:Nat×Int) (b:List Sta) (c:Int) (d:List Ord) (e:List Met) (f:Bt):=a.1≤List.length b∧((-3200000000)*Nc a.1≤a.2∧a.2≤3200000000*Nc a.1)∧Jx4 c d e f (List.drop a.1 b) a.2=Jwn c b d e f
def Kuo (a:Nat×Int) (b:List Sta) (c:Int) (d:List Ord) (e:List Met) (f:Bt) (g:Nat×Int):=Khl a b c d e f∧List.length b-a.1<List.length b-g.1
theorem Kpf:Ok Tryz.prog 128 J0c:=okW K30 Tryz.f128 (fun xx=>Xr (Kch xx.1.1 xx.1.2.1 xx.1.2.2.1 xx.1.2.2.2.1 xx.1.2.2.2.2.1 xx.1.2.2.2.2.2.1 xx.1.2.2.2.2.2.2 xx.2.1)) fun xx=>by
 obtain⟨⟨(tk:Int),(st:Int),(S:List Sta),(O:List Ord),(M:List Met),(X:List Out),(Q:List Per)⟩,(s:ByteArray),_⟩:=xx
 refine(by kernel_rfl:(Jw tk st S O M X Q→∃(x:Nat×Int),Sf s (0=x.2∧Si (Ln S) (Jx8 x S O M X Q tk st))∧Khl x S st O M s∧∀(x:Nat×Int),Khl x S st O M s→Br (decide (Nc x.1<Ln S)) (Tw (Bd (Nc x.1) (Ln S))∧Br (!Lb (Kli S x) s) ((Jw tk st S O M X Q∧Iw (x.2+Di st O M s (Kli S x)))∧Z37 x∧∃(y:Nat×Int),Sf s (x.2+Di st O M s (Kli S x)=y.2∧Si (Ln S) (Jqd x y S O M X Q tk st))∧Kuo y S st O M s x) (Z37 x∧∃(y:Nat×Int),Sf s (x.2=y.2∧Si (Ln S) (Jqd x y S O M X Q tk st))∧Kuo y S st O M s x)) (x.2=Jwn st S O M s))=_).mp ?_
 delta Z8 Z37 Z63 Jsd Jw Kli Jqe Jx8 Jqd Khl Kuo Br Iw Bd Tw Sf Si Ln Nc B0 Lb
 intro hr
 have nS:S.length≤6:=hr.nS
 refine⟨((0:Nat),(0:Int)),by(repeat' first|exact rfl|exact⟨⟩|apply And.intro|omega|dsimp only;omega),⟨Nat.zero_le _,by omega,rfl⟩,fun(x:Nat×Int) hk=>⟨fun h1=> ?_,fun h1=> ?_⟩⟩
 ·obtain⟨k,n⟩:=x
  have hlt:k<S.length:=by simpa using h1
  obtain⟨k1,k2,k3⟩:=hk
  rw[Jq (d:=Jso) hlt,Jx4] at k3
  have hz:((({data:={toList:=[]}}:ByteArray),(0:Int),(0:Int)):Sta)=Jso:=rfl
  dsimp only at k1 k2 k3
  simp only[hz,Prod.eta]
  generalize S.getD k Jso=y at*
  have hb:=Jqb (a:=s) (b:=y.1) hr
  refine⟨⟨⟨by omega,by omega⟩,by omega,by omega⟩,fun h2=>⟨⟨hr,by omega,by omega⟩,⟨by omega,by omega⟩,(k+1,n+Di st O M s y.1),by(repeat' first|exact rfl|exact⟨⟩|apply And.intro|omega|dsimp only;omega),⟨by(first|omega|dsimp only;omega),by(first|omega|dsimp only;omega), ?_⟩,by(first|omega|dsimp only;omega)⟩,fun h2=>⟨⟨by omega,by omega⟩,(k+1,n),by(repeat' first|exact rfl|exact⟨⟩|apply And.intro|omega|dsimp only;omega),⟨by(first|omega|dsimp only;omega),by(first|omega|dsimp only;omega), ?_⟩,by(first|omega|dsimp only;omega)⟩⟩
  all_goals (have h2:(y.1.toList !=s.toList)=_:=h2;rw[h2] at k3;exact k3)
 ·obtain⟨k,n⟩:=x
  have hlt:¬k<S.length:=by simpa using h1
  obtain⟨k1,k2,k3⟩:=hk
  have:k=S.length:=by omega
  rw[this,List.drop_length,Jx4] at k3
  exact k3
abbrev K3z:=K30.add Kpf
def J2e (num den:Int):Int×Int:=(num.tdiv (Nat.gcd num.toNat den.toNat:Nat),den.tdiv (Nat.gcd num.toNat den.toNat:Nat))
def K56:Con:={args:=[aI,aI],ress:=[(true,Hv)],owns:=[],pre:=fun(a,b,_)=>[0≤a∧a≤1000000000000,1≤b∧b≤1000000000000],spec:=fun(a,b,_)=>(J2e a b,())}
abbrev Kce (num den:Int):Ann:={X:=Int×Int,σ:=fun(a,b)=>⟨1,[(0, .one (.int .i64 num)),(1, .one (.int .i64 den)),(4, .one (.ptr 0 0)),(5, .one (.int .i64 a)),(6, .one (.int .i64 b))],[(0, .box 54 [.int .i64 0, .int .i64 0])]⟩,inv:=fun(a,b)=>(0≤a∧a≤1000000000000)∧(0≤b∧b≤1000000000000)∧(a=0→b≠0)∧Nat.gcd a.toNat b.toNat=Nat.gcd num.toNat den.toNat,mu:=fun(_,b)=>b.toNat}
def Z32:=Tw ((0:Int)=0)
def Khe (a:Int×Int) (b c:Int):=(0≤a.1∧a.1≤1000000000000)∧(0≤a.2∧a.2≤1000000000000)∧(a.1=0→a.2=0→False)∧Nat.gcd (Int.toNat a.1) (Int.toNat a.2)=Nat.gcd (Int.toNat b) (Int.toNat c)
theorem K4c:Ok Tryz.prog 99 K56:=okW K3z Tryz.f99 (fun xx=>Xr (Kce xx.1 xx.2.1)) fun xx=>by
 obtain⟨(num:Int),(den:Int),_⟩:=xx
 refine(by kernel_rfl:(0≤num∧num≤1000000000000→1≤den∧den≤1000000000000→∃(x:Int×Int),Si num (Si den (num=x.1∧den=x.2∧Z32))∧Khe x num den∧∀(x:Int×Int),Khe x num den→Br (x.2 !=0) ((x.2=0→False)∧∃(y:Int×Int),Si num (Si den (x.2=y.1∧Int.tmod x.1 x.2=y.2∧Z32))∧Khe y num den∧Int.toNat y.2<Int.toNat x.2) (((x.1=0→False)∧Iw (Int.tdiv num x.1)∧(x.1=0→False)∧Iw (Int.tdiv den x.1))∧(Int.tdiv num x.1,Int.tdiv den x.1)=J2e num den))=_).mp ?_
 delta Z32 Khe Br Iw Tw Si
 intro h1' h2
 refine⟨(num,den),by(repeat' first|exact rfl|exact⟨⟩|apply And.intro|omega|dsimp only;omega),⟨h1',by(first|omega|dsimp only;omega),by(first|omega|dsimp only;omega),rfl⟩,fun(x:Int×Int) hk=>⟨fun h1=> ?_,fun h1=> ?_⟩⟩
 ·obtain⟨a,b⟩:=x
  obtain⟨k1,k2,k3,k4⟩:=hk
  dsimp only at k1 k2 k3 k4 h1
  have hb:b≠0:=bne_iff_ne.1 h1
  obtain⟨A,rfl⟩:=Int.eq_ofNat_of_zero_le k1.1
  obtain⟨B,rfl⟩:=Int.eq_ofNat_of_zero_le k2.1
  have hB:0<B:=by omega
  have hm:=Nat.mod_lt A hB
  have e:((A:Int).tmod (B:Int))=((A %B:Nat):Int):=(Int.ofNat_tmod A B).symm
  refine⟨hb,((B:Int),((A %B:Nat):Int)),⟨rfl,rfl,rfl,e,rfl,rfl⟩,⟨by(first|omega|dsimp only;omega),by(first|omega|dsimp only;omega),fun h=>(by dsimp only at h;omega), ?_⟩, ?_⟩
  ·rw[←k4]
   simp only[Int.toNat_natCast]
   rw[Nat.gcd_comm A B,Nat.gcd_rec B A,Nat.gcd_comm]
  ·simp only[Int.toNat_natCast]
   exact hm
 ·obtain⟨a,b⟩:=x
  obtain⟨k1,k2,k3,k4⟩:=hk
  dsimp only at k1 k2 k3 k4 h1
  have hb:b=0:=by simpa using h1
  subst hb
  have ha:a≠0:=fun h=>k3 h rfl
  have hg:(Nat.gcd num.toNat den.toNat:Int)=a:=by rw[←k4];simp;omega
  have d1:0≤num.tdiv a:=Int.tdiv_nonneg h1'.1 k1.1
  have d2:num.tdiv a≤num:=Int.tdiv_le_self _ h1'.1
  have d3:0≤den.tdiv a:=Int.tdiv_nonneg (by omega) k1.1
  have d4:den.tdiv a≤den:=Int.tdiv_le_self _ (by omega)
  refine⟨⟨ha,⟨by(first|omega|dsimp only;omega),by(first|omega|dsimp only;omega)⟩,ha,by(first|omega|dsimp only;omega),by(first|omega|dsimp only;omega)⟩, ?_⟩
  unfold J2e
  rw[hg]
abbrev K3y:=K3z.add K4c
abbrev J94:Sch:= .prod .str (.prod sI .bool)
abbrev Frm:=ByteArray×Int×Bool
def Zo (k:ByteArray):Frm:=
 bif k.toList==Js.toList then(⟨⟨[83]⟩⟩,2,true) else
 bif k.toList==Kv.toList then(⟨⟨[115]⟩⟩,2,true) else
 bif k.toList==Ke.toList then(⟨⟨[79,115,115]⟩⟩,4,true) else
 bif k.toList==Kq.toList then(⟨⟨[111]⟩⟩,4,true) else
 bif k.toList==Vf.toList then(⟨⟨[111]⟩⟩,1,true) else
 bif k.toList==Jt.toList then(⟨⟨[88,115]⟩⟩,4,true) else
 bif k.toList==Jo.toList then(⟨⟨[120]⟩⟩,1,true) else
 bif k.toList==J6.toList then(⟨⟨[80,120]⟩⟩,1,true) else
 bif k.toList==J5.toList then(⟨⟨[112]⟩⟩,1,true) else
 bif k.toList==Jh.toList then(⟨⟨[]⟩⟩,2,true) else
 bif k.toList==J0.toList then(⟨⟨[]⟩⟩,0,true) else
 (Ja,0,false)
def Kqu:Con:={args:=[aS],ress:=[(true,J94)],owns:=[],pre:=fun _=>[],spec:=fun(k,_)=>(Zo k,())}
theorem Kai:Ok Tryz.prog 110 Kqu:=okW K3y Tryz.f110 na fun xx=>by
 obtain⟨(k:ByteArray),_⟩:=xx
 refine(by kernel_rfl:(Br (Lb k Js) ((ByteArray.mk (Array.mk [83]),2,true)=Zo k) (Br (Lb k Kv) ((ByteArray.mk (Array.mk [115]),2,true)=Zo k) (Br (Lb k Ke) ((ByteArray.mk (Array.mk [79,115,115]),4,true)=Zo k) (Br (Lb k Kq) ((ByteArray.mk (Array.mk [111]),4,true)=Zo k) (Br (Lb k Vf) ((ByteArray.mk (Array.mk [111]),1,true)=Zo k) (Br (Lb k Jt) ((ByteArray.mk (Array.mk [88,115]),4,true)=Zo k) (Br (Lb k Jo) ((ByteArray.mk (Array.mk [120]),1,true)=Zo k) (Br (Lb k J6) ((ByteArray.mk (Array.mk [80,120]),1,true)=Zo k) (Br (Lb k J5) ((ByteArray.mk (Array.mk [112]),1,true)=Zo k) (Br (Lb k Jh) ((B0,2,true)=Zo k) (Br (Lb k J0) ((B0,0,true)=Zo k) ((B0,0,false)=Zo k))))))))))))=_).mp ?_
 delta Br B0 Lb Kq Ke Jt J6 Kv Jo J5 Jh Js Vf J0
 unfold Zo
 repeat' first|(refine⟨fun h=> ?_,fun h=> ?_⟩)|(rw[h];clear h)
 all_goals rfl
abbrev K7u:=K3y.add Kai
abbrev K3x:=K7u
abbrev Jkx:Sch:= .prod sI (.prod sI (.prod (.list 114 Dk) (.prod (.list 119 Hk) (.prod (.list 121 Dx) (.prod (.list 123 X6) (.list 125 Zy))))))
abbrev Xs:AK:= .val true Jkx
def Kq5:Con:={args:=[Xs,aS],ress:=[I],owns:=[],pre:=fun((_,_,L,_),_)=>[L.length≤1000000],spec:=fun((_,_,L,_),s,_)=>(Jy L s,())}
abbrev J51 (tk st:Int) (S:List Sta) (O:List Ord) (M:List Met) (X:List Out) (Q:List Per) (s:ByteArray):Ann:={X:=Nat,σ:=fun k=>⟨6,[(1, .one (.str s)),(2, .one (.ptr 5 0)),(5, .one (.int .i64 k))],[(0, .imm 114 Dk S),(1, .imm 119 Hk O),(2, .imm 121 Dx M),(3, .imm 123 X6 X),(4, .imm 125 Zy Q),(5, .box 37 [.int .i64 tk, .int .i64 st, .sl 0, .sl 1, .sl 2, .sl 3, .sl 4])]⟩,inv:=fun k=>k≤S.length∧Jy S s=Vs (fun x=>x.1.toList==s.toList) (S.drop k) k,mu:=fun k=>S.length-k}
def Kj6 (a:Nat) (b:List Sta) (c:Bt):=a≤List.length b∧Jy b c=Vs (fun(x:Sta)=>Lb x.1 c) (List.drop a b) a
def Jx7 (a:Bt) (b:Nat) (c:List Sta) (d:List Ord) (e:List Met) (f:List Out) (g:List Per) (h i:Int):=Sf a (0=Nc b∧Jqe c d e f g h i)
def Jx6 (a:Bt) (b c:Nat) (d:List Sta) (e:List Ord) (f:List Met) (g:List Out) (h:List Per) (i j:Int):=Sf a (Z82 b c∧Jqe d e f g h i j)
theorem K5l:Ok Tryz.prog 21 Kq5:=okW K3x Tryz.f21 (fun xx=>Xr (J51 xx.1.1 xx.1.2.1 xx.1.2.2.1 xx.1.2.2.2.1 xx.1.2.2.2.2.1 xx.1.2.2.2.2.2.1 xx.1.2.2.2.2.2.2 xx.2.1)) fun xx=>by
 obtain⟨⟨(tk:Int),(st:Int),(S:List Sta),(O:List Ord),(M:List Met),(X:List Out),(Q:List Per)⟩,(s:ByteArray),_⟩:=xx
 refine(by kernel_rfl:(Z58 S→∃(x:Nat),Jx7 s x S O M X Q tk st∧Kj6 x S s∧∀(x:Nat),Kj6 x S s→Br (decide (Nc x<Ln S)) (Tw (Bd (Nc x) (Ln S))∧Br (Lb (List.getD S x Z8).1 s) (Nc x=Jy S s) (Z16 x∧∃(y:Nat),Jx6 s x y S O M X Q tk st∧Kj6 y S s∧List.length S-y<List.length S-x)) (Z64=Jy S s))=_).mp ?_
 delta Z8 Z16 Z58 Z64 Z82 Kj6 Jqe Jx7 Jx6 Br Iw Bd Tw Sf Si Ln Nc B0 Lb
 intro hb
 refine⟨(0:Nat),by(repeat' first|exact rfl|exact⟨⟩|apply And.intro|omega|dsimp only;omega),⟨Nat.zero_le _,rfl⟩,fun(k:Nat) hk=>⟨fun h=> ?_,fun h=> ?_⟩⟩
 ·have hlt:k<S.length:=by simpa using h
  have hd:=Yc (p:=fun x=>x.1.toList==s.toList) (d:=Jso) hlt
  refine⟨by omega,fun h1=> ?_,fun h1=>⟨by omega,(k+1:Nat),by(repeat' first|exact rfl|exact⟨⟩|apply And.intro|omega|dsimp only;omega),⟨by omega, ?_⟩,by omega⟩⟩
  ·rw[hk.2,hd,if_pos (show((S.getD k Jso).1.toList==s.toList)=true from h1)]
  ·rw[hk.2,hd,if_neg (by rw[show((S.getD k Jso).1.toList==s.toList)=false from h1];simp)]
 ·have hlt:¬k<S.length:=by simpa using h
  have:k=S.length:=by omega
  rw[hk.2,this,List.drop_length];rfl
abbrev K3w:=K3x.add K5l
def Kq4:Con:={args:=[Xs,aS],ress:=[I],owns:=[],pre:=fun((_,_,_,L,_),_)=>[L.length≤1000000],spec:=fun((_,_,_,L,_),s,_)=>(Kw L s,())}
abbrev J50 (tk st:Int) (S:List Sta) (O:List Ord) (M:List Met) (X:List Out) (Q:List Per) (s:ByteArray):Ann:={X:=Nat,σ:=fun k=>⟨6,[(1, .one (.str s)),(2, .one (.ptr 5 0)),(5, .one (.int .i64 k))],[(0, .imm 114 Dk S),(1, .imm 119 Hk O),(2, .imm 121 Dx M),(3, .imm 123 X6 X),(4, .imm 125 Zy Q),(5, .box 37 [.int .i64 tk, .int .i64 st, .sl 0, .sl 1, .sl 2, .sl 3, .sl 4])]⟩,inv:=fun k=>k≤O.length∧Kw O s=Vs (fun x=>x.1.toList==s.toList) (O.drop k) k,mu:=fun k=>O.length-k}
def Kj3 (a:Nat) (b:List Ord) (c:Bt):=a≤List.length b∧Kw b c=Vs (fun(x:Ord)=>Lb x.1 c) (List.drop a b) a
theorem K4o:Ok Tryz.prog 86 Kq4:=okW K3w Tryz.f86 (fun xx=>Xr (J50 xx.1.1 xx.1.2.1 xx.1.2.2.1 xx.1.2.2.2.1 xx.1.2.2.2.2.1 xx.1.2.2.2.2.2.1 xx.1.2.2.2.2.2.2 xx.2.1)) fun xx=>by
 obtain⟨⟨(tk:Int),(st:Int),(S:List Sta),(O:List Ord),(M:List Met),(X:List Out),(Q:List Per)⟩,(s:ByteArray),_⟩:=xx
 refine(by kernel_rfl:(Z53 O→∃(x:Nat),Jx7 s x S O M X Q tk st∧Kj3 x O s∧∀(x:Nat),Kj3 x O s→Br (decide (Nc x<Ln O)) (Tw (Bd (Nc x) (Ln O))∧Br (Lb (Ke7 O x) s) (Nc x=Kw O s) (Z16 x∧∃(y:Nat),Jx6 s x y S O M X Q tk st∧Kj3 y O s∧List.length O-y<List.length O-x)) (Z64=Kw O s))=_).mp ?_
 delta Z16 Z53 Z64 Z65 Z82 Jc3 Ke8 Ke7 Kj3 Jqe Jx7 Jx6 Br Iw Bd Tw Sf Si Ln Nc B0 Lb
 intro hb
 refine⟨(0:Nat),by(repeat' first|exact rfl|exact⟨⟩|apply And.intro|omega|dsimp only;omega),⟨Nat.zero_le _,rfl⟩,fun(k:Nat) hk=>⟨fun h=> ?_,fun h=> ?_⟩⟩
 ·have hlt:k<O.length:=by simpa using h
  have hd:=Yc (p:=fun x=>x.1.toList==s.toList) (d:=Ki) hlt
  refine⟨by omega,fun h1=> ?_,fun h1=>⟨by omega,(k+1:Nat),by(repeat' first|exact rfl|exact⟨⟩|apply And.intro|omega|dsimp only;omega),⟨by omega, ?_⟩,by omega⟩⟩
  ·rw[hk.2,hd,if_pos (show((O.getD k Ki).1.toList==s.toList)=true from h1)]
  ·rw[hk.2,hd,if_neg (by rw[show((O.getD k Ki).1.toList==s.toList)=false from h1];simp)]
 ·have hlt:¬k<O.length:=by simpa using h
  have:k=O.length:=by omega
  rw[hk.2,this,List.drop_length];rfl
abbrev K3v:=K3w.add K4o
def Kq3:Con:={args:=[Xs,aS],ress:=[I],owns:=[],pre:=fun((_,_,_,_,_,L,_),_)=>[L.length≤1000000],spec:=fun((_,_,_,_,_,L,_),s,_)=>(J7 L s,())}
abbrev J5z (tk st:Int) (S:List Sta) (O:List Ord) (M:List Met) (X:List Out) (Q:List Per) (s:ByteArray):Ann:={X:=Nat,σ:=fun k=>⟨6,[(1, .one (.str s)),(2, .one (.ptr 5 0)),(5, .one (.int .i64 k))],[(0, .imm 114 Dk S),(1, .imm 119 Hk O),(2, .imm 121 Dx M),(3, .imm 123 X6 X),(4, .imm 125 Zy Q),(5, .box 37 [.int .i64 tk, .int .i64 st, .sl 0, .sl 1, .sl 2, .sl 3, .sl 4])]⟩,inv:=fun k=>k≤X.length∧J7 X s=Vs (fun x=>x.1.toList==s.toList) (X.drop k) k,mu:=fun k=>X.length-k}
def Kj7 (a:Nat) (b:List Out) (c:Bt):=a≤List.length b∧J7 b c=Vs (fun(x:Out)=>Lb x.1 c) (List.drop a b) a
theorem K4n:Ok Tryz.prog 87 Kq3:=okW K3v Tryz.f87 (fun xx=>Xr (J5z xx.1.1 xx.1.2.1 xx.1.2.2.1 xx.1.2.2.2.1 xx.1.2.2.2.2.1 xx.1.2.2.2.2.2.1 xx.1.2.2.2.2.2.2 xx.2.1)) fun xx=>by
 obtain⟨⟨(tk:Int),(st:Int),(S:List Sta),(O:List Ord),(M:List Met),(X:List Out),(Q:List Per)⟩,(s:ByteArray),_⟩:=xx
 refine(by kernel_rfl:(Z48 X→∃(x:Nat),Jx7 s x S O M X Q tk st∧Kj7 x X s∧∀(x:Nat),Kj7 x X s→Br (Z93 x X) (Tw (Z14 x X)∧Br (Lb (J0z X x) s) (Nc x=J7 X s) (Z16 x∧∃(y:Nat),Jx6 s x y S O M X Q tk st∧Kj7 y X s∧Jyf X y x)) (Z64=J7 X s))=_).mp ?_
 delta Z14 Z16 Z48 Z64 Z82 Z93 Jdd Jyf J00 J0z Kj7 Jqe Jx7 Jx6 Br Iw Bd Tw Sf Si Ln Nc B0 Lb
 intro hb
 refine⟨(0:Nat),by(repeat' first|exact rfl|exact⟨⟩|apply And.intro|omega|dsimp only;omega),⟨Nat.zero_le _,rfl⟩,fun(k:Nat) hk=>⟨fun h=> ?_,fun h=> ?_⟩⟩
 ·have hlt:k<X.length:=by simpa using h
  have hd:=Yc (p:=fun x=>x.1.toList==s.toList) (d:=Jbd) hlt
  refine⟨by omega,fun h1=> ?_,fun h1=>⟨by omega,(k+1:Nat),by(repeat' first|exact rfl|exact⟨⟩|apply And.intro|omega|dsimp only;omega),⟨by omega, ?_⟩,by omega⟩⟩
  ·rw[hk.2,hd,if_pos (show((X.getD k Jbd).1.toList==s.toList)=true from h1)]
  ·rw[hk.2,hd,if_neg (by rw[show((X.getD k Jbd).1.toList==s.toList)=false from h1];simp)]
 ·have hlt:¬k<X.length:=by simpa using h
  have:k=X.length:=by omega
  rw[hk.2,this,List.drop_length];rfl
abbrev K3u:=K3v.add K4n
def Kq2:Con:={args:=[Xs,aS],ress:=[I],owns:=[],pre:=fun((_,_,_,_,_,_,L),_)=>[L.length≤1000000],spec:=fun((_,_,_,_,_,_,L),s,_)=>(Uy L s,())}
abbrev J5y (tk st:Int) (S:List Sta) (O:List Ord) (M:List Met) (X:List Out) (Q:List Per) (s:ByteArray):Ann:={X:=Nat,σ:=fun k=>⟨6,[(1, .one (.str s)),(2, .one (.ptr 5 0)),(5, .one (.int .i64 k))],[(0, .imm 114 Dk S),(1, .imm 119 Hk O),(2, .imm 121 Dx M),(3, .imm 123 X6 X),(4, .imm 125 Zy Q),(5, .box 37 [.int .i64 tk, .int .i64 st, .sl 0, .sl 1, .sl 2, .sl 3, .sl 4])]⟩,inv:=fun k=>k≤Q.length∧Uy Q s=Vs (fun x=>x.1.toList==s.toList) (Q.drop k) k,mu:=fun k=>Q.length-k}
def Kj5 (a:Nat) (b:List Per) (c:Bt):=a≤List.length b∧Uy b c=Vs (fun(x:Per)=>Lb x.1 c) (List.drop a b) a
theorem K4m:Ok Tryz.prog 88 Kq2:=okW K3u Tryz.f88 (fun xx=>Xr (J5y xx.1.1 xx.1.2.1 xx.1.2.2.1 xx.1.2.2.2.1 xx.1.2.2.2.2.1 xx.1.2.2.2.2.2.1 xx.1.2.2.2.2.2.2 xx.2.1)) fun xx=>by
 obtain⟨⟨(tk:Int),(st:Int),(S:List Sta),(O:List Ord),(M:List Met),(X:List Out),(Q:List Per)⟩,(s:ByteArray),_⟩:=xx
 refine(by kernel_rfl:(Z52 Q→∃(x:Nat),Jx7 s x S O M X Q tk st∧Kj5 x Q s∧∀(x:Nat),Kj5 x Q s→Br (Z91 x Q) (Tw (Bd (Nc x) (Ln Q))∧Br (Lb (List.getD Q x (B0,B0,false)).1 s) (Nc x=Uy Q s) (Z16 x∧∃(y:Nat),Jx6 s x y S O M X Q tk st∧Kj5 y Q s∧J03 Q y x)) (Z64=Uy Q s))=_).mp ?_
 delta Z16 Z52 Z64 Z82 Z91 J03 Kj5 Jqe Jx7 Jx6 Br Iw Bd Tw Sf Si Ln Nc B0 Lb
 intro hb
 refine⟨(0:Nat),by(repeat' first|exact rfl|exact⟨⟩|apply And.intro|omega|dsimp only;omega),⟨Nat.zero_le _,rfl⟩,fun(k:Nat) hk=>⟨fun h=> ?_,fun h=> ?_⟩⟩
 ·have hlt:k<Q.length:=by simpa using h
  have hd:=Yc (p:=fun x=>x.1.toList==s.toList) (d:=Jix) hlt
  refine⟨by omega,fun h1=> ?_,fun h1=>⟨by omega,(k+1:Nat),by(repeat' first|exact rfl|exact⟨⟩|apply And.intro|omega|dsimp only;omega),⟨by omega, ?_⟩,by omega⟩⟩
  ·rw[hk.2,hd,if_pos (show((Q.getD k Jix).1.toList==s.toList)=true from h1)]
  ·rw[hk.2,hd,if_neg (by rw[show((Q.getD k Jix).1.toList==s.toList)=false from h1];simp)]
 ·have hlt:¬k<Q.length:=by simpa using h
  have:k=Q.length:=by omega
  rw[hk.2,this,List.drop_length];rfl
abbrev K3t:=K3u.add K4m
def atS (r:Reg) (c:Int) (s:ByteArray):Int:=bif c==115 then Jy r.2.2.1 s else bif c==111 then Kw r.2.2.2.1 s else bif c==120 then J7 r.2.2.2.2.2.1 s else Uy r.2.2.2.2.2.2 s
def cAt:Con:={args:=[Xs, .val false (.int .u8),aS],ress:=[I],owns:=[],pre:=fun(r,_)=>[Jl r],spec:=fun(r,c,s,_)=>(atS r c s,())}
theorem Knx:Ok Tryz.prog 192 cAt:=okW K3t Tryz.f192 na fun xx=>by
 obtain⟨⟨(tk:Int),(st:Int),(S:List Sta),(O:List Ord),(M:List Met),(X:List Out),(Q:List Per)⟩,(c:Int),(s:ByteArray),_⟩:=xx
 refine(by kernel_rfl:(Jw tk st S O M X Q→Br (c==115) (Z58 S∧Jy S s=atS (Z63 tk st S O M X Q) c s) (Br (c==111) (Z53 O∧Kw O s=atS (Z63 tk st S O M X Q) c s) (Br (c==120) (Z48 X∧J7 X s=atS (Z63 tk st S O M X Q) c s) (Z52 Q∧Uy Q s=atS (Z63 tk st S O M X Q) c s))))=_).mp ?_
 delta Z48 Z52 Z53 Z58 Z63 Jw Br
 intro hr
 have nS:S.length≤6:=hr.nS
 have nO:O.length≤32:=hr.nO
 have nX:X.length≤16:=hr.nX
 have nQ:Q.length≤16:=hr.nQ
 unfold atS
 repeat' first|(refine⟨fun h=> ?_,fun h=> ?_⟩)|(rw[h];clear h)
 all_goals exact⟨by omega,rfl⟩
abbrev K3s:=K3t.add Knx
theorem Kn4:Ok Tryz.prog 181 Jv4:=okW K3s Tryz.f181 na fun xx=>by
 obtain⟨⟨(a:Int),(b:Int)⟩,(h:Int),_⟩:=xx
 refine(by kernel_rfl:((bif decide (a≤h) then decide (h<b) else false)=Kp (a,b) h)=_).mp ?_
 rfl
abbrev K3r:=K3s.add Kn4
def Jr6:Con:={args:=[.val true Hk,aI],ress:=[Bo],owns:=[],pre:=fun(x,_)=>[-1≤x.2.2.2.2.2.2],spec:=fun(x,h,_)=>(Jr x h,())}
def Kfv (a:Int):=Z64≤a
theorem Kpu:Ok Tryz.prog 103 Jr6:=okW K3r Tryz.f103 na fun xx=>by
 obtain⟨⟨(n:ByteArray),(f:ByteArray),(t:ByteArray),⟨(a:Int),(b:Int)⟩,(p:Int),(c:Int),(r:Int)⟩,(h:Int),_⟩:=xx
 refine(by kernel_rfl:(Kfv r→(bif Kp (a,b) h then bif decide (r<0) then true else decide (h<r) else false)=Jr (n,f,t,(a,b),p,c,r) h)=_).mp ?_
 delta Z64 Kfv
 intro hr
 unfold Jr
 have:(r== -1)=decide (r<0):=by
  by_cases q:r= -1
  ·rw[q];rfl
  ·rw[beq_eq_false_iff_ne.2 q,decide_eq_false (by(first|omega|dsimp only;omega))]
 dsimp only
 rw[this]
abbrev K3q:=K3r.add Kpu
def K6e:Con:={args:=[Xs,aS,aI],ress:=[I],owns:=[],pre:=fun(r,s,_)=>[Jl r,0≤Jy r.2.2.1 s],spec:=fun((_,_,S,_,_,X,_),s,h,_)=>(Jgr X s h (Hm S s).2.1,())}
abbrev Kcg (tk st:Int) (S:List Sta) (O:List Ord) (M:List Met) (X:List Out) (Q:List Per) (s:ByteArray) (h:Int):Ann:={X:=Nat×Int,σ:=fun(k,n)=>⟨6,[(1, .one (.str s)),(2, .one (.int .i64 h)),(3, .one (.ptr 5 0)),(7, .one (.int .i64 n)),(8, .one (.int .i64 k))],[(0, .imm 114 Dk S),(1, .imm 119 Hk O),(2, .imm 121 Dx M),(3, .imm 123 X6 X),(4, .imm 125 Zy Q),(5, .box 37 [.int .i64 tk, .int .i64 st, .sl 0, .sl 1, .sl 2, .sl 3, .sl 4])]⟩,inv:=fun(k,n)=>k≤X.length∧Jgr (X.drop k) s h n=Jgr X s h (Hm S s).2.1,mu:=fun(k,_)=>X.length-k}
def Kjs (a:Nat×Int) (b:List Out) (c:Bt) (d:Int) (e:List Sta):=a.1≤List.length b∧Jgr (List.drop a.1 b) c d a.2=Jgr b c d (Hm e c).2.1
def Kwo (a:Nat×Int) (b:List Out) (c:Bt) (d:Int) (e:List Sta) (f:Nat×Int):=Kjs a b c d e∧List.length b-a.1<List.length b-f.1
theorem Kpx:Ok Tryz.prog 100 K6e:=okW K3q Tryz.f100 (fun xx=>Xr (Kcg xx.1.1 xx.1.2.1 xx.1.2.2.1 xx.1.2.2.2.1 xx.1.2.2.2.2.1 xx.1.2.2.2.2.2.1 xx.1.2.2.2.2.2.2 xx.2.1 xx.2.2.1)) fun xx=>by
 obtain⟨⟨(tk:Int),(st:Int),(S:List Sta),(O:List Ord),(M:List Met),(X:List Out),(Q:List Per)⟩,(s:ByteArray),(h:Int),_⟩:=xx
 refine(by kernel_rfl:(Jw tk st S O M X Q→Z21 S s→(Z58 S∧Tw (Bd (Jy S s) (Ln S)))∧∃(x:Nat×Int),Sf s (Si h ((Kfm S s).2.1=x.2∧Jx8 x S O M X Q tk st))∧Kjs x X s h S∧∀(x:Nat×Int),Kjs x X s h S→Br (decide (Nc x.1<Ln X)) (Tw (Bd (Nc x.1) (Ln X))∧Br (bif bif Lb (J86 X x).1 s then Kp (Kkx X x) h else false then decide (J82 X x<x.2) else false) (Z37 x∧∃(y:Nat×Int),Sf s (Si h (J82 X x=y.2∧Jqd x y S O M X Q tk st))∧Kwo y X s h S x) (Z37 x∧∃(y:Nat×Int),Sf s (Si h (x.2=y.2∧Jqd x y S O M X Q tk st))∧Kwo y X s h S x)) (x.2=Jgr X s h (Hm S s).2.1))=_).mp ?_
 delta Z8 Z21 Z37 Z58 Z63 Jsd Jw Jdd Kfm J86 J82 Kkx Kjs Jqe Jx8 Kwo Jqd Br Iw Bd Tw Sf Si Ln Nc Gt B0 Lb E2
 intro hr hf
 have nS:S.length≤6:=hr.nS
 have nX:X.length≤16:=hr.nX
 have hl:=K6 (l:=S) (s:=s)
 refine⟨⟨by omega,⟨hf,hl⟩,hf,hl⟩,((0:Nat),(Hm S s).2.1),by(repeat' first|exact rfl|exact⟨⟩|apply And.intro|omega|dsimp only;omega),⟨Nat.zero_le _,rfl⟩,fun(x:Nat×Int) hk=>⟨fun h1=> ?_,fun h1=> ?_⟩⟩
 ·obtain⟨k,n⟩:=x
  have hlt:k<X.length:=by simpa using h1
  obtain⟨k1,k2⟩:=hk
  rw[Jq (d:=Jbd) hlt,Jgr] at k2
  have hz:((({data:={toList:=[]}}:ByteArray),({data:={toList:=[]}}:ByteArray),((0:Int),(0:Int)),(0:Int)):Out)=Jbd:=rfl
  dsimp only at k1 k2
  simp only[hz,Prod.eta]
  generalize X.getD k Jbd=y at*
  have hc:(bif bif bif y.2.1.toList==s.toList then Kp y.2.2.1 h else false then decide (y.2.2.2<n) else false then y.2.2.2 else n)=bif Jzc y s h then min n y.2.2.2 else n:=by
   unfold Jzc
   cases bif y.2.1.toList==s.toList then Kp y.2.2.1 h else false
   ·rfl
   ·by_cases q:y.2.2.2<n
    ·simp only[cond_true,decide_eq_true q];omega
    ·simp only[cond_true,decide_eq_false q,cond_false];omega
  refine⟨⟨⟨by omega,by omega⟩,by omega,by omega⟩,fun h2=>⟨⟨by omega,by omega⟩,(k+1,y.2.2.2),by(repeat' first|exact rfl|exact⟨⟩|apply And.intro|omega|dsimp only;omega),⟨by(first|omega|dsimp only;omega), ?_⟩,by(first|omega|dsimp only;omega)⟩,fun h2=>⟨⟨by omega,by omega⟩,(k+1,n),by(repeat' first|exact rfl|exact⟨⟩|apply And.intro|omega|dsimp only;omega),⟨by(first|omega|dsimp only;omega), ?_⟩,by(first|omega|dsimp only;omega)⟩⟩
  all_goals (rw[←hc] at k2;have h2:(bif bif y.2.1.toList==s.toList then Kp y.2.2.1 h else false then decide (y.2.2.2<n) else false)=_:=h2;rw[h2] at k2;exact k2)
 ·obtain⟨k,n⟩:=x
  have hlt:¬k<X.length:=by simpa using h1
  obtain⟨k1,k2⟩:=hk
  have:k=X.length:=by omega
  rw[this,List.drop_length,Jgr] at k2
  exact k2
abbrev K3p:=K3q.add Kpx
def J0a:Con:={args:=[Xs,aS,aI],ress:=[I],owns:=[],pre:=fun(r,_)=>[Jl r],spec:=fun((_,_,_,O,_),s,h,_)=>(Vb O s h,())}
abbrev Jr9 (tk st:Int) (S:List Sta) (O:List Ord) (M:List Met) (X:List Out) (Q:List Per) (s:ByteArray) (h:Int):Ann:={X:=Nat×Int,σ:=fun(k,n)=>⟨6,[(1, .one (.str s)),(2, .one (.int .i64 h)),(3, .one (.ptr 5 0)),(7, .one (.int .i64 n)),(8, .one (.int .i64 k))],[(0, .imm 114 Dk S),(1, .imm 119 Hk O),(2, .imm 121 Dx M),(3, .imm 123 X6 X),(4, .imm 125 Zy Q),(5, .box 37 [.int .i64 tk, .int .i64 st, .sl 0, .sl 1, .sl 2, .sl 3, .sl 4])]⟩,inv:=fun(k,n)=>k≤O.length∧(0≤n∧n≤1000*k)∧n+Vb (O.drop k) s h=Vb O s h,mu:=fun(k,_)=>O.length-k}
def Kib (a:Nat×Int) (b:List Ord) (c:Bt) (d:Int):=a.1≤List.length b∧(0≤a.2∧a.2≤1000*Nc a.1)∧a.2+Vb (List.drop a.1 b) c d=Vb b c d
def Kvc (a:Nat×Int) (b:List Ord) (c:Bt) (d:Int) (e:Nat×Int):=Kib a b c d∧List.length b-a.1<List.length b-e.1
def Kuw (a:List Ord) (b:Nat×Int) (c:Bt):=bif Kjt a b c then true else Kjr a b c
theorem Kpw:Ok Tryz.prog 101 J0a:=okW K3p Tryz.f101 (fun xx=>Xr (Jr9 xx.1.1 xx.1.2.1 xx.1.2.2.1 xx.1.2.2.2.1 xx.1.2.2.2.2.1 xx.1.2.2.2.2.2.1 xx.1.2.2.2.2.2.2 xx.2.1 xx.2.2.1)) fun xx=>by
 obtain⟨⟨(tk:Int),(st:Int),(S:List Sta),(O:List Ord),(M:List Met),(X:List Out),(Q:List Per)⟩,(s:ByteArray),(h:Int),_⟩:=xx
 refine(by kernel_rfl:(Jw tk st S O M X Q→∃(x:Nat×Int),Sf s (Si h (0=x.2∧Jx8 x S O M X Q tk st))∧Kib x O s h∧∀(x:Nat×Int),Kib x O s h→Br (decide (Nc x.1<Ln O)) (Tw (Bd (Nc x.1) (Ln O))∧(Kuw O x s=true→Z64≤(Kex O x).2)∧Br (bif Kuw O x s then Kge O x h else false) (Kjd x O∧Z37 x∧∃(y:Nat×Int),Sf s (Si h (Ki9 x O y∧Jqd x y S O M X Q tk st))∧Kvc y O s h x) (Z37 x∧∃(y:Nat×Int),Sf s (Si h (x.2=y.2∧Jqd x y S O M X Q tk st))∧Kvc y O s h x)) (x.2=Vb O s h))=_).mp ?_
 delta Z37 Z63 Z64 Z65 Jsd Jw Jc3 Ke6 Ke5 Ke4 Ke3 Ke2 Ke1 Kez Kex Kew Kjt Kjr Kjk Kjd Ki9 Jqe Jx8 Kib Jqd Kvc Kuw J54 Kge Br Iw Bd Tw Sf Si Ln Nc B0 Lb E2
 intro hr
 have nO:O.length≤32:=hr.nO
 refine⟨((0:Nat),(0:Int)),by(repeat' first|exact rfl|exact⟨⟩|apply And.intro|omega|dsimp only;omega),⟨Nat.zero_le _,by omega,by simp⟩,fun(x:Nat×Int) hk=>⟨fun h1=> ?_,fun h1=> ?_⟩⟩
 ·obtain⟨k,n⟩:=x
  have hlt:k<O.length:=by simpa using h1
  obtain⟨k1,k2,k3⟩:=hk
  have hO:=hr.ord _ (Jc (d:=Ki) hlt)
  rw[Jq (d:=Ki) hlt,Vb] at k3
  have hz:((({data:={toList:=[]}}:ByteArray),({data:={toList:=[]}}:ByteArray),({data:={toList:=[]}}:ByteArray),((0:Int),(0:Int)),(0:Int),(0:Int),(0:Int)):Ord)=Ki:=rfl
  dsimp only at k1 k2 k3
  simp only[hz,Prod.eta]
  generalize O.getD k Ki=y at*
  have hp:=hO.pow
  have ht:=hO.trip
  refine⟨⟨⟨by omega,by omega⟩,by omega,by omega⟩,fun _=>by omega,fun h2=>⟨⟨by omega,by omega⟩,⟨by omega,by omega⟩,(k+1,n+y.2.2.2.2.1),by(repeat' first|exact rfl|exact⟨⟩|apply And.intro|omega|dsimp only;omega),⟨by(first|omega|dsimp only;omega),by(first|omega|dsimp only;omega), ?_⟩,by(first|omega|dsimp only;omega)⟩,fun h2=>⟨⟨by omega,by omega⟩,(k+1,n),by(repeat' first|exact rfl|exact⟨⟩|apply And.intro|omega|dsimp only;omega),⟨by(first|omega|dsimp only;omega),by(first|omega|dsimp only;omega), ?_⟩,by(first|omega|dsimp only;omega)⟩⟩
  all_goals (have h2:(bif Fn y s then Jr y h else false)=_:=h2;rw[h2] at k3;simp only[cond_true,cond_false] at k3;(first|omega|dsimp only;omega))
 ·obtain⟨k,n⟩:=x
  have hlt:¬k<O.length:=by simpa using h1
  obtain⟨k1,k2,k3⟩:=hk
  have:k=O.length:=by omega
  rw[this,List.drop_length,Vb] at k3
  exact(Int.add_zero n).symm.trans k3
abbrev K3o:=K3p.add Kpw
def J4y:Con:={args:=[Xs,aS,aI],ress:=[I],owns:=[],pre:=fun(r,s,_)=>[Jl r,0≤Jy r.2.2.1 s],spec:=fun((_,_,S,O,_,X,_),s,h,_)=>(Xn S O X s h,())}
theorem Jv1 {S:List Sta} {s:ByteArray} {h:Int}:∀{X:List Out} {n:Int},(∀x∈X,Joh S x)→0≤n∧n≤1000→0≤Jgr X s h n∧Jgr X s h n≤1000
 |[],_,_,hn=>hn
 |x::l,n,hX,hn=>by
  have hx:=(hX x (List.mem_cons_self ..)).rest
  unfold Jgr
  refine Jv1 (fun y hy=>hX y (List.mem_cons_of_mem _ hy)) ?_
  cases Jzc x s h<;>simp only[cond_true,cond_false]<;>omega
theorem K5f:Ok Tryz.prog 28 J4y:=okW K3o Tryz.f28 na fun xx=>by
 obtain⟨⟨(tk:Int),(st:Int),(S:List Sta),(O:List Ord),(M:List Met),(X:List Out),(Q:List Per)⟩,(s:ByteArray),(h:Int),_⟩:=xx
 refine(by kernel_rfl:(Jw tk st S O M X Q→Z21 S s→(Jw tk st S O M X Q∧Z21 S s∧Jw tk st S O M X Q∧Iw (Jgr X s h (Hm S s).2.1-Vb O s h))∧Jgr X s h (Hm S s).2.1-Vb O s h=Xn S O X s h)=_).mp ?_
 delta Z21 Z63 Jw Iw
 intro hr hf
 have h1:=Jij hr.sta hf
 have h2:=Jv1 (s:=s) (h:=h) hr.out (n:=(Hm S s).2.1) ⟨Int.le_trans (by decide) h1.lim.1,h1.lim.2⟩
 have h3:=Jjd (s:=s) (h:=h) hr.ord
 have nO:O.length≤32:=hr.nO
 dsimp only at h2 h3
 exact⟨⟨hr,hf,hr,by omega,by omega⟩,rfl⟩
abbrev K3n:=K3o.add K5f
def Xv (M:List Met) (s:ByteArray) (h:Int):Met×Bool:=if 0≤Kz M s h then(Db M s h,true) else(Ji9,false)
def Kqo:Con:={args:=[Xs,aS,aI],ress:=[(true,Dx),Bo],owns:=[],pre:=fun(r,_)=>[Jl r],spec:=fun((_,_,_,_,M,_),s,h,_)=>((Xv M s h).1,(Xv M s h).2,())}
abbrev J5u (tk st:Int) (S:List Sta) (O:List Ord) (M:List Met) (X:List Out) (Q:List Per) (s:ByteArray) (h:Int):Ann:={X:=Nat,σ:=fun k=>⟨7,[(1, .one (.str s)),(2, .one (.int .i64 h)),(3, .one (.ptr 5 0)),(6, .one (.ptr 6 0)),(8, .one (.int .i64 k))],[(0, .imm 114 Dk S),(1, .imm 119 Hk O),(2, .imm 121 Dx M),(3, .imm 123 X6 X),(4, .imm 125 Zy Q),(5, .box 37 [.int .i64 tk, .int .i64 st, .sl 0, .sl 1, .sl 2, .sl 3, .sl 4]),(6, .box 121 [.str Ja, .int .i64 0, .int .i64 0, .int .i64 0])]⟩,inv:=fun k=>k≤M.length∧Kz M s h=Vs (fun x=>bif x.1.toList==s.toList then x.2.1==h else false) (M.drop k) k,mu:=fun k=>M.length-k}
def Kis (a:Nat) (b:List Met) (c:Bt) (d:Int):=a≤List.length b∧Kz b c d=Vs (fun(x:Met)=>bif Lb x.1 c then x.2.1==d else false) (List.drop a b) a
theorem Kpv:Ok Tryz.prog 102 Kqo:=okW K3n Tryz.f102 (fun xx=>Xr (J5u xx.1.1 xx.1.2.1 xx.1.2.2.1 xx.1.2.2.2.1 xx.1.2.2.2.2.1 xx.1.2.2.2.2.2.1 xx.1.2.2.2.2.2.2 xx.2.1 xx.2.2.1)) fun xx=>by
 obtain⟨⟨(tk:Int),(st:Int),(S:List Sta),(O:List Ord),(M:List Met),(X:List Out),(Q:List Per)⟩,(s:ByteArray),(h:Int),_⟩:=xx
 refine(by kernel_rfl:(Jw tk st S O M X Q→∃(x:Nat),Sf s (Si h (0=Nc x∧Sf S (Sf O (Sf M (Sf X (Sf Q (Si tk (Si st (B0=Ja∧Si 0 Z32)))))))))∧Kis x M s h∧∀(x:Nat),Kis x M s h→Br (decide (Nc x<Ln M)) (Tw (Bd (Nc x) (Ln M))∧Br (bif Lb (Kfl M x).1 s then(Kfj M x).1==h else false) (Khj M x=(Xv M s h).1∧true=(Xv M s h).2) (Z16 x∧∃(y:Nat),Sf s (Si h (Z82 x y∧Sf S (Sf O (Sf M (Sf X (Sf Q (Si tk (Si st (Sf Ja (Si 0 Z32))))))))))∧Kis y M s h∧List.length M-y<List.length M-x)) (Js1=(Xv M s h).1∧false=(Xv M s h).2))=_).mp ?_
 delta Z16 Z32 Z63 Z65 Z82 Js1 Jw Kfl Kfj Kis Khj Br Iw Bd Tw Sf Si Ln Nc B0 Lb E2
 intro hr
 have nM:M.length≤10000:=hr.nM
 refine⟨(0:Nat),by(repeat' first|exact rfl|exact⟨⟩|apply And.intro|omega|dsimp only;omega),⟨Nat.zero_le _,rfl⟩,fun(k:Nat) hk=>⟨fun h1=> ?_,fun h1=> ?_⟩⟩
 ·have hlt:k<M.length:=by simpa using h1
  obtain⟨k1,k2⟩:=hk
  have hd:=Yc (p:=fun x=>bif x.1.toList==s.toList then x.2.1==h else false) (d:=Ji9) hlt
  have hz:((({data:={toList:=[]}}:ByteArray),(0:Int),(0:Int),(0:Int)):Met)=Ji9:=rfl
  simp only[hz,Prod.eta]
  refine⟨⟨⟨by omega,by omega⟩,by omega,by omega⟩,fun h2=> ?_,fun h2=>⟨⟨by omega,by omega⟩,(k+1:Nat),by(repeat' first|exact rfl|exact⟨⟩|apply And.intro|omega|dsimp only;omega),⟨by omega, ?_⟩,by omega⟩⟩
  ·have h2:(bif (M.getD k Ji9).1.toList==s.toList then(M.getD k Ji9).2.1==h else false)=true:=h2
   have e:Kz M s h=k:=by rw[k2,hd,if_pos h2]
   have e2:Xv M s h=(M.getD k Ji9,true):=by
    unfold Xv
    rw[if_pos (by omega)]
    unfold Db
    rw[e];rfl
   rw[e2]
   repeat' first|exact rfl|exact⟨⟩|apply And.intro|omega|dsimp only;omega
  ·have h2:(bif (M.getD k Ji9).1.toList==s.toList then(M.getD k Ji9).2.1==h else false)=false:=h2
   rw[k2,hd,if_neg (by rw[h2];simp)]
 ·have hlt:¬k<M.length:=by simpa using h1
  obtain⟨k1,k2⟩:=hk
  have:k=M.length:=by omega
  rw[this,List.drop_length,Vs] at k2
  have e2:Xv M s h=(Ji9,false):=by
   unfold Xv
   rw[if_neg (by omega)]
  rw[e2]
  repeat' first|exact rfl|exact⟨⟩|apply And.intro|omega|dsimp only;omega
abbrev K3m:=K3n.add Kpv
def Jbk (st:Int) (M:List Met) (x:Ord) (h:Int):Met×Bool:=bif bif decide (st≤h) then true else !Jr x h then(Ji9,false) else Xv M x.1 h
def Kax:Con:={args:=[Xs, .val true Hk,aI],ress:=[(true,Dx),Bo],owns:=[],pre:=fun(r,x,_)=>[Jl r,-1≤x.2.2.2.2.2.2],spec:=fun((_,st,_,_,M,_),x,h,_)=>((Jbk st M x h).1,(Jbk st M x h).2,())}
theorem K4p:Ok Tryz.prog 85 Kax:=okW K3m Tryz.f85 na fun xx=>by
 obtain⟨⟨(tk:Int),(st:Int),(S:List Sta),(O:List Ord),(M:List Met),(X:List Out),(Q:List Per)⟩,⟨(n:ByteArray),(f:ByteArray),(t:ByteArray),⟨(a:Int),(b:Int)⟩,(p:Int),(c:Int),(r:Int)⟩,(h:Int),_⟩:=xx
 refine(by kernel_rfl:(Jw tk st S O M X Q→Kfv r→(decide (st≤h)=false→Kfv r)∧Br (bif decide (st≤h) then true else !Jr (n,f,t,(a,b),p,c,r) h) (Js1=(Jbk st M (n,f,t,(a,b),p,c,r) h).1∧false=(Jbk st M (n,f,t,(a,b),p,c,r) h).2) (Jw tk st S O M X Q∧((Xv M n h).1.1,(Xv M n h).1.2.1,E2 (Xv M n h).1.2.2)=(Jbk st M (n,f,t,(a,b),p,c,r) h).1∧(Xv M n h).2=(Jbk st M (n,f,t,(a,b),p,c,r) h).2))=_).mp ?_
 delta Z63 Z64 Z65 Js1 Kfv Jw Br B0 E2
 intro hr ht
 refine⟨fun _=>ht,fun h2=> ?_,fun h2=>⟨hr, ?_⟩⟩
 ·have e:Jbk st M (n,f,t,(a,b),p,c,r) h=(Ji9,false):=by unfold Jbk;rw[show(bif decide (st≤h) then true else !Jr (n,f,t,(a,b),p,c,r) h)=true from h2];rfl
  rw[e]
  repeat' first|exact rfl|exact⟨⟩|apply And.intro|omega|dsimp only;omega
 ·have e:Jbk st M (n,f,t,(a,b),p,c,r) h=Xv M n h:=by unfold Jbk;rw[show(bif decide (st≤h) then true else !Jr (n,f,t,(a,b),p,c,r) h)=false from h2];rfl
  rw[e]
  repeat' first|exact rfl|exact⟨⟩|apply And.intro|omega|dsimp only;omega
abbrev K3l:=K3m.add K4p
def J41:Con:={args:=[Xs,aI],ress:=[(false, .list 198 J3t)],owns:=[true],pre:=fun(r,_)=>[Jl r],spec:=fun((_,_,_,O,M,_),u,_)=>(Ko M u O,())}
abbrev Jwz (tk st:Int) (S:List Sta) (O:List Ord) (M:List Met) (X:List Out) (Q:List Per) (u:Int):Nat→Option Ann:=fun id=>if id=0 then some {X:=Nat×List Gap,σ:=fun(k,o)=>⟨7,[(1, .one (.int .i64 u)),(2, .one (.ptr 5 0)),(5, .one (.sl 6)),(6, .one (.int .i64 k))],[(0, .imm 114 Dk S),(1, .imm 119 Hk O),(2, .imm 121 Dx M),(3, .imm 123 X6 X),(4, .imm 125 Zy Q),(5, .box 37 [.int .i64 tk, .int .i64 st, .sl 0, .sl 1, .sl 2, .sl 3, .sl 4]),(6, .own 198 J3t o)]⟩,inv:=fun(k,o)=>k≤O.length∧o.length≤48*k∧o++Ko M u (O.drop k)=Ko M u O,mu:=fun(k,_)=>O.length-k}
 else if id=2 then some {X:=Nat×List Gap×Nat,σ:=fun(k,o,j)=>⟨8,[(1, .one (.int .i64 u)),(2, .one (.ptr 5 0)),(5, .one (.sl 6)),(6, .one (.int .i64 k)),(7, .one (.ptr 7 0)),(8, .one (.int .i64 ((O.getD k Ki).2.2.2.1.1+j)))],[(0, .imm 114 Dk S),(1, .imm 119 Hk O),(2, .imm 121 Dx M),(3, .imm 123 X6 X),(4, .imm 125 Zy Q),(5, .box 37 [.int .i64 tk, .int .i64 st, .sl 0, .sl 1, .sl 2, .sl 3, .sl 4]),(6, .own 198 J3t o),(7, .box 119 (bxO (O.getD k Ki)))]⟩,inv:=fun(k,o,j)=>k<O.length∧j≤Ur (O.getD k Ki)∧o.length≤48*k+j∧o++(L0 M u (O.getD k Ki) ((O.getD k Ki).2.2.2.1.1+j) (Ur (O.getD k Ki)-j)++Ko M u (O.drop (k+1)))=Ko M u O,mu:=fun(k,_,j)=>Ur (O.getD k Ki)-j,rel:=some fun x y=>y.1=x.1}
 else none
theorem Kp1 {M:List Met} {s:ByteArray} {h:Int}:(!(Xv M s h).2)=decide (Kz M s h<0):=by
 unfold Xv
 by_cases q:0≤Kz M s h
 ·rw[if_pos q,decide_eq_false (by omega)];rfl
 ·rw[if_neg q,decide_eq_true (by omega)];rfl
def Ktc (a:Nat×List (Bt×Int)×Nat) (b:List Ord) (c:List Met) (d:Int) (e:Nat×List (Bt×Int)×Nat) (f:Nat×List Gap×Nat):=(Kc9 a b c d∧a.1=e.1)∧Ur (List.getD b a.1 Ki)-a.2.2<Ur (List.getD b f.1 Ki)-f.2.2
def Ks3 (a:List Ord) (b:Nat×List Gap×Nat) (c:Nat×List (Bt×Int)×Nat):=J6n a b c∧J6l a b c∧J6k a b c∧J6f a b c∧J6h a b c∧J6g a b c∧J6d a b c∧J6c a b c
theorem K5e:Ok Tryz.prog 29 J41:=okW K3l Tryz.f29 (fun xx=>Jwz xx.1.1 xx.1.2.1 xx.1.2.2.1 xx.1.2.2.2.1 xx.1.2.2.2.2.1 xx.1.2.2.2.2.2.1 xx.1.2.2.2.2.2.2 xx.2.1) fun xx=>by
 obtain⟨⟨(tk:Int),(st:Int),(S:List Sta),(O:List Ord),(M:List Met),(X:List Out),(Q:List Per)⟩,(u:Int),_⟩:=xx
 refine(by kernel_rfl:(Jw tk st S O M X Q→∃(x:Nat×List (ByteArray×Int)),Si u (0=Nc x.1∧Sf S (Sf O (Sf M (Sf X (Sf Q (Si tk (Si st (List.length x.2=0))))))))∧Kei x O M u∧∀(x:Nat×List Gap),Kiq x O M u→Br (decide (Nc x.1<Ln O)) (Tw (Bd (Nc x.1) (Ln O))∧∃(x0:Nat×List (ByteArray×Int)×Nat),Si u (Nc x.1=Nc x0.1∧Kh5 O x x0∧Sf S (Sf O (Sf M (Sf X (Sf Q (Si tk (Si st (x.2=x0.2.1∧Keu O x x0∧Ket O x x0∧Kej O x x0∧Keg O x x0∧Kef O x x0∧Kee O x x0∧Kea O x x0∧Kd9 O x x0))))))))∧(Kc9 x0 O M u∧x0.1=x0.1)∧∀(x_1:Nat×List Gap×Nat),Kgs x_1 O M u∧x_1.1=x0.1→Br (Kj8 O x_1) (Jw tk st S O M X Q∧(J85 O x_1 u=true→Z64≤(Z76 O x_1).2.2)∧Br (bif bif J85 O x_1 u then Kgx O x_1 else false then !(Xv M (Z1 O x_1).1 (Jye O x_1)).2 else false) (Kk3 x_1∧J8z O x_1∧∃(y:Nat×List (ByteArray×Int)×Nat),Si u (Nc x_1.1=Nc y.1∧J8p O x_1 y∧Sf S (Sf O (Sf M (Sf X (Sf Q (Si tk (Si st (Ki3 x_1 O y∧Ks3 O x_1 y))))))))∧Ktc y O M u x0 x_1) (J8z O x_1∧∃(y:Nat×List (ByteArray×Int)×Nat),Si u (Nc x_1.1=Nc y.1∧J8p O x_1 y∧Sf S (Sf O (Sf M (Sf X (Sf Q (Si tk (Si st (x_1.2.1=y.2.1∧Ks3 O x_1 y))))))))∧Ktc y O M u x0 x_1)) (Iw (Nc x_1.1+1)∧∃(y:Nat×List (ByteArray×Int)),Si u (Nc x_1.1+1=Nc y.1∧Sf S (Sf O (Sf M (Sf X (Sf Q (Si tk (Si st (x_1.2.1=y.2))))))))∧Kdl y O M u x)) (x.2=Ko M u O))=_).mp ?_
 delta Z1 Z4 Z63 Z64 Z65 Z73 Z75 Z76 Z81 Jw Jye J6n J6l J85 J6k J8z Jc3 J6h J6g J6f J6d J6c Kk3 Kkk Kke Kkc Kj9 Kj8 Kj4 Kj2 Kjz Kjx J8p Ki8 Keu Ket Ki3 Kej Kei Kiq Keg Kef Kee Kea Kd9 Kh5 Kdl Kgx Kgs Kc9 Ktc Ks3 Br Iw Bd Tw Sf Si Ln Nc B0 E2
 intro hr
 have nO:O.length≤32:=hr.nO
 have hz:((({data:={toList:=[]}}:ByteArray),({data:={toList:=[]}}:ByteArray),({data:={toList:=[]}}:ByteArray),((0:Int),(0:Int)),(0:Int),(0:Int),(0:Int)):Ord)=Ki:=rfl
 refine⟨((0:Nat),[]),by(repeat' first|exact rfl|exact⟨⟩|apply And.intro|omega|dsimp only;omega),⟨Nat.zero_le _,Nat.zero_le _,rfl⟩,fun(x:Nat×List Gap) hk=>⟨fun h1=> ?_,fun h1=> ?_⟩⟩
 ·obtain⟨k,o⟩:=x
  have hlt:k<O.length:=by simpa using h1
  obtain⟨k1,k2,k3⟩:=hk
  dsimp only at k1 k2 k3
  rw[Jq (d:=Ki) hlt,Ko,Jur] at k3
  simp only[hz,Prod.eta]
  have hO:Jcd S (O.getD k Ki):=hr.ord _ (Jc (d:=Ki) hlt)
  have b0:=hO.span.lo
  have b1:=hO.span.mid
  have b2:=hO.span.hi
  have b3:=hO.span.len
  have bt:=hO.trip
  have hn:Ur (O.getD k Ki)≤48∧(Ur (O.getD k Ki):Int)=(O.getD k Ki).2.2.2.1.2-(O.getD k Ki).2.2.2.1.1:=by
   unfold Ur
   constructor<;>omega
  refine⟨⟨⟨by omega,by omega⟩,by omega,by omega⟩,(k,o,(0:Nat)),by(repeat' first|exact rfl|exact⟨⟩|apply And.intro|omega|dsimp only;omega),⟨⟨hlt,Nat.zero_le _,by(first|omega|dsimp only;omega), ?_⟩,by(repeat' first|exact rfl|exact⟨⟩|apply And.intro|omega|dsimp only;omega)⟩,fun(y:Nat×List Gap×Nat) hy=> ?_⟩
  ·dsimp only
   simpa[Ur] using k3
  obtain⟨k',o,j⟩:=y
  obtain⟨⟨i1,i2,i3,i4⟩,hkk⟩:=hy
  have hkk:k'=k:=hkk
  subst hkk
  dsimp only at i1 i2 i3 i4
  refine⟨fun h2=> ?_,fun h2=> ?_⟩
  ·have h2:(O.getD k' Ki).2.2.2.1.1+(j:Int)<(O.getD k' Ki).2.2.2.1.2:=of_decide_eq_true h2
   have hj:Ur (O.getD k' Ki)-j=(Ur (O.getD k' Ki)-(j+1))+1:=by omega
   rw[hj,L0] at i4
   have hc:(O.getD k' Ki).2.2.2.1.1+(j:Int)+1=(O.getD k' Ki).2.2.2.1.1+((j+1:Nat):Int):=by omega
   rw[hc] at i4
   have hcnd:(bif bif decide ((O.getD k' Ki).2.2.2.1.1+(j:Int)<u) then Jr (O.getD k' Ki) ((O.getD k' Ki).2.2.2.1.1+(j:Int)) else false then !(Xv M (O.getD k' Ki).1 ((O.getD k' Ki).2.2.2.1.1+(j:Int))).2 else false)=(Jr (O.getD k' Ki) ((O.getD k' Ki).2.2.2.1.1+(j:Int))&&(decide ((O.getD k' Ki).2.2.2.1.1+(j:Int)<u)&&decide (Kz M (O.getD k' Ki).1 ((O.getD k' Ki).2.2.2.1.1+(j:Int))<0))):=by
    rw[Kp1]
    cases decide ((O.getD k' Ki).2.2.2.1.1+(j:Int)<u)<;>cases Jr (O.getD k' Ki) ((O.getD k' Ki).2.2.2.1.1+(j:Int))<;>rfl
   refine⟨hr,fun _=>bt.1,fun h3=>⟨by(first|omega|dsimp only;omega),⟨by(first|omega|dsimp only;omega),by(first|omega|dsimp only;omega)⟩,(k',o++[((O.getD k' Ki).1,(O.getD k' Ki).2.2.2.1.1+(j:Int))],j+1),by(repeat' first|exact rfl|exact⟨⟩|apply And.intro|omega|dsimp only;omega),⟨⟨hlt,by(first|omega|dsimp only;omega),by(simp only[List.length_append,List.length_singleton];omega), ?_⟩,by(repeat' first|exact rfl|exact⟨⟩|apply And.intro|omega|dsimp only;omega)⟩,by(first|omega|dsimp only;omega)⟩,fun h3=>⟨⟨by(first|omega|dsimp only;omega),by(first|omega|dsimp only;omega)⟩,(k',o,j+1),by(repeat' first|exact rfl|exact⟨⟩|apply And.intro|omega|dsimp only;omega),⟨⟨hlt,by(first|omega|dsimp only;omega),by(first|omega|dsimp only;omega), ?_⟩,by(repeat' first|exact rfl|exact⟨⟩|apply And.intro|omega|dsimp only;omega)⟩,by(first|omega|dsimp only;omega)⟩⟩
   all_goals (have h3:(bif bif decide ((O.getD k' Ki).2.2.2.1.1+(j:Int)<u) then Jr (O.getD k' Ki) ((O.getD k' Ki).2.2.2.1.1+(j:Int)) else false then !(Xv M (O.getD k' Ki).1 ((O.getD k' Ki).2.2.2.1.1+(j:Int))).2 else false)=_:=h3;rw[hcnd] at h3;rw[h3] at i4;simpa using i4)
  ·have h2:¬(O.getD k' Ki).2.2.2.1.1+(j:Int)<(O.getD k' Ki).2.2.2.1.2:=of_decide_eq_false h2
   have hj:Ur (O.getD k' Ki)-j=0:=by omega
   rw[hj,L0] at i4
   exact⟨⟨by(first|omega|dsimp only;omega),by(first|omega|dsimp only;omega)⟩,(k'+1,o),by(repeat' first|exact rfl|exact⟨⟩|apply And.intro|omega|dsimp only;omega),⟨by(first|omega|dsimp only;omega),by(first|omega|dsimp only;omega),by simpa using i4⟩,by(first|omega|dsimp only;omega)⟩
 ·obtain⟨k,o⟩:=x
  have hlt:¬k<O.length:=by simpa using h1
  obtain⟨k1,k2,k3⟩:=hk
  dsimp only at k1 k2 k3
  have:k=O.length:=by omega
  rw[this,List.drop_length,Ko,List.append_nil] at k3
  exact k3
abbrev K7t:=K3l.add K5e
abbrev K7s:=K7t
abbrev K7r:=K7s
abbrev K7q:=K7r
theorem Jy2 {st:Int} {M:List Met} {x:Ord} (hd:∀h,Jr x h=true→h<st→0≤Kz M x.1 h) (h:Int):Jbk st M x h=bif Jr x h&&decide (h<st) then(Db M x.1 h,true) else(Ji9,false):=by
 unfold Jbk
 by_cases q:st≤h
 ·rw[decide_eq_true q,decide_eq_false (show ¬h<st by omega),Bool.and_false];rfl
 ·rw[decide_eq_false q,decide_eq_true (show h<st by omega),Bool.and_true,cond_false]
  cases hc:Jr x h with
  |false=>rfl
  |true=>
   simp only[Bool.not_true,cond_false,cond_true]
   unfold Xv
   rw[if_pos (hd h hc (by omega))]
def Jwk:Jqs:=(Ja,0,0,0,0,0)
abbrev K7p:=K7q
abbrev K7o:=K7p
abbrev K3k:=K7o
abbrev sH3:Sch:= .prod sI (.prod sI sI)
abbrev H3:=Int×Int×Int
def J4l (M:List Met) (h:Int) (x:Ord) (a:H3):H3:=bif Jr x h then(a.1+(Db M x.1 h).2.2.1,a.2.1+(Db M x.1 h).2.2.2,a.2.2+((Db M x.1 h).2.2.2*x.2.2.2.2.2.1-3*(x.2.2.2.2.1-(Db M x.1 h).2.2.2))) else a
def D0 (M:List Met) (h:Int):List Ord→H3→H3
 |[],a=>a
 |x::l,a=>D0 M h l (J4l M h x a)
def J45:Con:={args:=[Xs,aI],ress:=[(true,sH3)],owns:=[],pre:=fun(r,h,_)=>[Jl r,h<r.2.1],spec:=fun((_,_,_,O,M,_),h,_)=>(D0 M h O (0,0,0),())}
abbrev Jw1 (tk st:Int) (S:List Sta) (O:List Ord) (M:List Met) (X:List Out) (Q:List Per) (h:Int):Ann:={X:=Nat×H3,σ:=fun(k,a,b,c)=>⟨8,[(1, .one (.int .i64 h)),(2, .one (.ptr 5 0)),(4, .one (.ptr 6 0)),(5, .one (.ptr 7 0)),(6, .one (.int .i64 k))],[(0, .imm 114 Dk S),(1, .imm 119 Hk O),(2, .imm 121 Dx M),(3, .imm 123 X6 X),(4, .imm 125 Zy Q),(5, .box 37 [.int .i64 tk, .int .i64 st, .sl 0, .sl 1, .sl 2, .sl 3, .sl 4]),(6, .box 25 [.int .i64 0, .int .i64 0, .int .i64 0]),(7, .box 25 [.int .i64 a, .int .i64 b, .int .i64 c])]⟩,inv:=fun(k,a,b,c)=>k≤O.length∧(0≤a∧a≤1000*k)∧(0≤b∧b≤1000*k)∧(-2000000*k≤c∧c≤2000000*k)∧D0 M h (O.drop k) (a,b,c)=D0 M h O (0,0,0),mu:=fun(k,_)=>O.length-k}
def J9u (a:Nat×H3) (b:Nat×Int×Int×Int):=Nc a.1+1=Nc b.1
def Kky (a:Nat) (b:Int):=(-2000000)*Nc a≤b∧b≤2000000*Nc a
def K0o (a:List Ord) (b:Nat×H3):=List.getD a b.1 Jc3
def K0m (a:List Ord) (b:Nat×H3):=(K0o a b).2
def K0i (a:List Ord) (b:Nat×H3):=(K0m a b).2
def K0e (a:List Ord) (b:Nat×H3):=(K0i a b).2
def K0c (a:List Ord) (b:Nat×H3):=(K0e a b).2
def Kjv (a:List Ord) (b:Nat×H3):=(K0c a b).2
def Kz5 (a:List Ord) (b:Nat×H3):=(K0c a b).1
def Kue (a:Nat) (b:List Ord) (c d e:Int) (f:List Met) (g:Int):=a≤List.length b∧J04 c a∧J04 d a∧Kky a e∧D0 f g (List.drop a b) (c,d,e)=D0 f g b Z65
def Ktv (a:Nat×Int×Int×Int) (b:List Ord) (c:List Met) (d:Int):=match a with|(k,a,b_1,c_1)=>Kue k b a b_1 c_1 c d
def Kth (a:Nat×Int×Int×Int) (b:List Ord) (c:List Met) (d:Int) (e:Nat×H3):=Ktv a b c d∧List.length b-a.1<List.length b-e.1
def Ksx (a:Int) (b:List Met) (c:List Ord) (d:Nat×H3) (e:Int):=Jbk a b ((K0o c d).1,(K0m c d).1,(K0i c d).1,E2 (K0e c d).1,Kz5 c d,E2 (Kjv c d)) e
def Ksu (a:Int) (b:List Met) (c:List Ord) (d:Nat×H3) (e:Int):=(Ksx a b c d e).1.2.2
def Kgd (a:Int) (b:List Met) (c:List Ord) (d:Nat×H3) (e:Int):=(Ksu a b c d e).2
def Kst (a:Nat×H3) (b:Int) (c:List Met) (d:List Ord) (e:Int):=a.2.1+(Ksu b c d a e).1
def Kss (a:Nat×H3) (b:Int) (c:List Met) (d:List Ord) (e:Int):=a.2.2.1+Kgd b c d a e
def Kso (a:List Ord) (b:Nat×H3) (c:Int) (d:List Met) (e:Int):=Kz5 a b-Kgd c d a b e
def Ksn (a:Int) (b:List Met) (c:List Ord) (d:Nat×H3) (e:Int):=Kgd a b c d e*(Kjv c d).1
def Ksm (a:List Ord) (b:Nat×H3) (c:Int) (d:List Met) (e:Int):=3*Kso a b c d e
def Ksl (a:Nat×H3) (b:Int) (c:List Met) (d:List Ord) (e:Int):=a.2.2.2+Ksn b c d a e
def J7d (a:Nat×H3) (b:Int) (c:List Met) (d:List Ord) (e:Int):=Ksl a b c d e-Ksm d a b c e
theorem K5k:Ok Tryz.prog 22 J45:=okW K3k Tryz.f22 (fun xx=>Xr (Jw1 xx.1.1 xx.1.2.1 xx.1.2.2.1 xx.1.2.2.2.1 xx.1.2.2.2.2.1 xx.1.2.2.2.2.2.1 xx.1.2.2.2.2.2.2 xx.2.1)) fun xx=>by
 obtain⟨⟨(tk:Int),(st:Int),(S:List Sta),(O:List Ord),(M:List Met),(X:List Out),(Q:List Per)⟩,(h:Int),_⟩:=xx
 refine(by kernel_rfl:(Jw tk st S O M X Q→h<st→∃(x:Nat×Int×Int×Int),Si h (0=Nc x.1∧Sf S (Sf O (Sf M (Sf X (Sf Q (Si tk (Si st (Si 0 (Si 0 (Si 0 (0=x.2.1∧0=x.2.2.1∧0=x.2.2.2)))))))))))∧Ktv x O M h∧∀(x:Nat×H3),(match x with|(k,a,b,c)=>Kue k O a b c M h)→Br (decide (Nc x.1<Ln O)) (Tw (Bd (Nc x.1) (Ln O))∧(Jw tk st S O M X Q∧Z64≤(Kjv O x).2)∧Br (Ksx st M O x h).2 ((Iw (Kst x st M O h)∧Iw (Kss x st M O h))∧(Iw (Ksn st M O x h)∧Iw (Ksl x st M O h)∧Iw (Kso O x st M h)∧Iw (Ksm O x st M h)∧Iw (J7d x st M O h))∧Iw (Nc x.1+1)∧∃(y:Nat×Int×Int×Int),Si h (J9u x y∧Sf S (Sf O (Sf M (Sf X (Sf Q (Si tk (Si st (Si 0 (Si 0 (Si 0 (Kst x st M O h=y.2.1∧Kss x st M O h=y.2.2.1∧J7d x st M O h=y.2.2.2)))))))))))∧Kth y O M h x) (Iw (Nc x.1+1)∧∃(y:Nat×Int×Int×Int),Si h (J9u x y∧Sf S (Sf O (Sf M (Sf X (Sf Q (Si tk (Si st (Si 0 (Si 0 (Si 0 (x.2.1=y.2.1∧x.2.2.1=y.2.2.1∧x.2.2.2=y.2.2.2)))))))))))∧Kth y O M h x)) ((x.2.1,E2 x.2.2)=D0 M h O Z65))=_).mp ?_
 delta Z63 Z64 Z65 J9u Jw J04 Jc3 Kky K0o K0m K0i K0e K0c Kjv Kz5 Kue Ktv Kth Ksx Ksu Kgd Kst Kss Kso Ksn Ksm Ksl J7d Br Iw Bd Tw Sf Si Ln Nc B0 E2
 intro hr hst
 have nO:O.length≤32:=hr.nO
 refine⟨((0:Nat),0,0,0),by(repeat' first|exact rfl|exact⟨⟩|apply And.intro|omega|dsimp only;omega),⟨Nat.zero_le _,by omega,by omega,by omega,rfl⟩,fun(x:Nat×H3) hk=>⟨fun h1=> ?_,fun h1=> ?_⟩⟩
 ·obtain⟨k,a,b,c⟩:=x
  have hlt:k<O.length:=by simpa using h1
  obtain⟨k1,k2,k3,k4,k5⟩:=hk
  have hx:=Jc (d:=Ki) hlt
  rw[Jq (d:=Ki) hlt,D0] at k5
  have hz:((({data:={toList:=[]}}:ByteArray),({data:={toList:=[]}}:ByteArray),({data:={toList:=[]}}:ByteArray),((0:Int),(0:Int)),(0:Int),(0:Int),(0:Int)):Ord)=Ki:=rfl
  simp only[hz,Prod.eta]
  have hO:Jcd S (O.getD k Ki):=hr.ord _ hx
  have hd:∀h,Jr (O.getD k Ki) h=true→h<st→0≤Kz M (O.getD k Ki).1 h:=hr.done _ hx
  have hD:=Jy2 hd h
  generalize O.getD k Ki=y at*
  rw[decide_eq_true (show h<st from hst),Bool.and_true] at hD
  unfold J4l at k5
  have bt:=hO.trip
  have bp:=hO.pow
  have bc:=hO.pri
  cases hq:Jr y h with
  |false=>
   rw[hq,cond_false] at hD k5
   simp only[hD]
   exact⟨by(repeat' first|apply And.intro|omega),⟨hr,bt.1⟩,fun h=>(by cases h),fun _=>⟨by(repeat' first|apply And.intro|omega),(k+1,a,b,c),by(repeat' first|exact rfl|exact⟨⟩|apply And.intro|omega|dsimp only;omega),⟨by(first|omega|dsimp only;omega),by(first|omega|dsimp only;omega),by(first|omega|dsimp only;omega),by(first|omega|dsimp only;omega),k5⟩,by(first|omega|dsimp only;omega)⟩⟩
  |true=>
   rw[hq,cond_true] at hD k5
   simp only[hD]
   have hm:=hd _ hq hst
   have hl:=Jas (l:=M) (s:=y.1) (h:=h)
   have hM:Jsm (Db M y.1 h):=hr.met _ (Jc (show _<M.length by omega))
   have m1:=hM.sent
   have m2:=hM.got
   have q1:0≤(Db M y.1 h).2.2.2*y.2.2.2.2.2.1:=Int.mul_nonneg m2.1 bc.1
   have q2:(Db M y.1 h).2.2.2*y.2.2.2.2.2.1≤1000*1000:=Int.mul_le_mul (by omega) bc.2 bc.1 (by decide)
   refine⟨by(repeat' first|apply And.intro|omega),⟨hr,bt.1⟩,fun _=>⟨by(repeat' first|apply And.intro|omega),by(repeat' first|apply And.intro|omega),by(repeat' first|apply And.intro|omega),(k+1,a+(Db M y.1 h).2.2.1,b+(Db M y.1 h).2.2.2,c+(Db M y.1 h).2.2.2*y.2.2.2.2.2.1-3*(y.2.2.2.2.1-(Db M y.1 h).2.2.2)),by(repeat' first|exact rfl|exact⟨⟩|apply And.intro|omega|dsimp only;omega),⟨by(first|omega|dsimp only;omega),by(first|omega|dsimp only;omega),by(first|omega|dsimp only;omega),by(first|omega|dsimp only;omega), ?_⟩,by(first|omega|dsimp only;omega)⟩,fun h=>(by cases h)⟩
   rw[show c+(Db M y.1 h).2.2.2*y.2.2.2.2.2.1-3*(y.2.2.2.2.1-(Db M y.1 h).2.2.2)=c+((Db M y.1 h).2.2.2*y.2.2.2.2.2.1-3*(y.2.2.2.2.1-(Db M y.1 h).2.2.2)) by omega]
   exact k5
 ·obtain⟨k,a,b,c⟩:=x
  have hlt:¬k<O.length:=by simpa using h1
  obtain⟨k1,k2,k3,k4,k5⟩:=hk
  have:k=O.length:=by omega
  rw[this,List.drop_length,D0] at k5
  exact k5
abbrev K7n:=K3k.add K5k
def Jth:List Jqs→Int×Int→Int×Int
 |[],a=>a
 |b::l,(s,g)=>Jth l (s+b.2.2.1,g+b.2.2.2.1)
def Kaj (st:Int) (O:List Ord) (M:List Met):(Int×Int)×Int:=if(Jth (O.map (Ut st M)) (0,0)).1=0 then((0,0),6) else(J2e ((Jth (O.map (Ut st M)) (0,0)).1-(Jth (O.map (Ut st M)) (0,0)).2) (Jth (O.map (Ut st M)) (0,0)).1,0)
abbrev K3j:=K7n
def F6 (l:List Ev) (h:Int):Int:=Jg [opE l [],Kj h 0 999999999,bif decide ((Ji l).2.1≤h) then 22 else 0]
def F5 (l:List Ev) (h:Int):H3:=if F6 l h=0 then D0 (Ji l).2.2.2.2.1 h (Ji l).2.2.2.1 (0,0,0) else(0,0,0)
def J46:Con:={args:=[.val false (.list 67 sEv),aI],ress:=[(true,sH3),I],owns:=[],pre:=fun(l,_)=>[lOk l],spec:=fun(l,h,_)=>(F5 l h,F6 l h,())}
abbrev imR (r:Reg) (i:Nat):List (Nat×Res):=[(i, .imm 127 Dk r.2.2.1),(i+1, .imm 130 Hk r.2.2.2.1),(i+2, .imm 155 Dx r.2.2.2.2.1),(i+3, .imm 188 X6 r.2.2.2.2.2.1),(i+4, .imm 235 Zy r.2.2.2.2.2.2)]
abbrev bxR (r:Reg) (i:Nat):Res:= .box 105 [.int .i64 r.1, .int .i64 r.2.1, .sl i, .sl (i+1), .sl (i+2), .sl (i+3), .sl (i+4)]
abbrev J5w (l:List Ev) (h:Int):Ann:={X:=Nat×H3,σ:=fun(k,a,b,c)=>⟨9,[(1, .one (.int .i64 h)),(4, .one (.ptr 1 0)),(6, .one (.ptr 7 0)),(9, .one (.ptr 8 0)),(33, .one (.sl 3)),(34, .one (.int .i64 (Ji l).2.2.2.1.length)),(35, .one (.int .i64 k))],(1, .box 25 [.int .i64 0, .int .i64 0, .int .i64 0])::(7,bxR (Ji l) 2)::(8, .box 25 [.int .i64 a, .int .i64 b, .int .i64 c])::imR (Ji l) 2⟩,inv:=fun(k,a,b,c)=>F6 l h=0∧k≤(Ji l).2.2.2.1.length∧(0≤a∧a≤1000*k)∧(0≤b∧b≤1000*k)∧(-2000000*k≤c∧c≤2000000*k)∧D0 (Ji l).2.2.2.2.1 h ((Ji l).2.2.2.1.drop k) (a,b,c)=F5 l h,mu:=fun(k,_)=>(Ji l).2.2.2.1.length-k}
theorem J4p {a b c:Int} (h:Jg [a,b,c]=0):a=0∧b=0∧c=0:=by
 have h:=Ux.1 h
 exact⟨h a (by simp),h b (by simp),h c (by simp)⟩
def Z25 (a:List Ev):=Ln (Ji a).2.2.2.1
def J1a (a:List Ev):=(Ji a).2.2.1=(Ji a).2.2.1
def J09 (a:List Ev):=(Ji a).2.2.2.1=(Ji a).2.2.2.1
def J07 (a:List Ev):=(Ji a).2.2.2.2.1=(Ji a).2.2.2.2.1
def J06 (a:List Ev):=(Ji a).2.2.2.2.2.2=(Ji a).2.2.2.2.2.2
def J05 (a:List Ev):=(Ji a).2.2.2.2.2.1=(Ji a).2.2.2.2.2.1
def Kzx (a:List Ev) (b:Nat×H3):=List.getD (Ji a).2.2.2.1 b.1 Jc3
def Kzv (a:List Ev) (b:Nat×H3):=(Kzx a b).1
def Kzu (a:List Ev) (b:Nat×H3):=(Kzx a b).2
def Kzr (a:List Ev) (b:Nat×H3):=(Kzu a b).2
def Kzp (a:List Ev) (b:Nat×H3):=(Kzr a b).2
def Kzo (a:List Ev) (b:Nat×H3):=(Kzp a b).2
def Kzl (a:List Ev) (b:Nat×H3):=(Kzo a b).2
def Kzk (a:List Ev) (b:Nat×H3):=(Kzo a b).1
def Kw9 (a:List Ev) (b:Nat×H3) (c:Int):=Kz (Ji a).2.2.2.2.1 (Kzv a b) c
def Kw2 (a:List Ev) (b:Int):=Jg [opE a [],Z68 b,bif decide ((Ji a).2.1≤b) then 22 else 0]
def Ku8 (a:List Ev) (b:Nat×H3) (c:Int):=(Gt (Ji a).2.2.2.2.1 (Kw9 a b c) Js1).2.2
def Khd (a:List Ev) (b:Nat×H3) (c:Int):=(Ku8 a b c).2
def Ku4 (a:Nat×H3) (b:List Ev) (c:Int):=a.2.1+(Ku8 b a c).1
def Kux (a:Nat×H3) (b:List Ev) (c:Int):=a.2.2.1+Khd b a c
def Kg8 (a:List Ev):=J1a a∧J09 a∧J07 a∧J05 a∧J06 a
def Kt9 (a:List Ev) (b:Nat×H3) (c:Int):=Kzk a b-Khd a b c
def Kt8 (a:List Ev) (b:Nat×H3) (c:Int):=Khd a b c*(Kzl a b).1
def Kt3 (a:List Ev) (b:Nat×H3) (c:Int):=3*Kt9 a b c
def Kty (a:List Ev) (b:Int) (c:Nat) (d e f:Int):=F6 a b=0∧c≤List.length (Ji a).2.2.2.1∧J04 d c∧J04 e c∧Kky c f∧D0 (Ji a).2.2.2.2.1 b (List.drop c (Ji a).2.2.2.1) (d,e,f)=F5 a b
def Ktj (a:Nat×Int×Int×Int) (b:List Ev) (c:Int):=match a with|(k,a,b_1,c_1)=>Kty b c k a b_1 c_1
def Ks9 (a:Nat×Int×Int×Int) (b:List Ev) (c:Int) (d:Nat×H3):=Ktj a b c∧List.length (Ji b).2.2.2.1-a.1<List.length (Ji b).2.2.2.1-d.1
def Ksr (a:List Ev) (b:Nat×H3) (c:Int):=Kt8 a b c-Kt3 a b c
def Ksq (a:Nat×H3) (b:List Ev) (c:Int):=a.2.2.2+Ksr b a c
theorem K5r:Ok Tryz.prog 15 J46:=okW K3j Tryz.f15 (fun xx=>Xr (J5w xx.1 xx.2.1)) fun xx=>by
 obtain⟨(l:List Ev),(h:Int),_⟩:=xx
 refine(by kernel_rfl:(lOk l→(lOk l∧0≤1000000)∧3≤1000000∧Br (Kw2 l h !=0) (Z65=F5 l h∧Kw2 l h=F6 l h) (∃(x:Nat×Int×Int×Int),Si h (Z25 l=Z25 l∧0=Nc x.1∧Si 0 (Si 0 (Si 0 ((Ji l).1=(Ji l).1∧(Ji l).2.1=(Ji l).2.1∧0=x.2.1∧0=x.2.2.1∧0=x.2.2.2∧Kg8 l))))∧Ktj x l h∧∀(x:Nat×H3),(match x with|(k,a,b,c)=>Kty l h k a b c)→Br (decide (Nc x.1<Z25 l)) (Tw (Bd (Nc x.1) (Z25 l))∧Br (Jr (Kzv l x,(Kzu l x).1,(Kzr l x).1,E2 (Kzp l x).1,Kzk l x,E2 (Kzl l x)) h) ((Jx9 l∧Tw (Bd (Kw9 l x h) (Ln (Ji l).2.2.2.2.1)))∧Iw (Ku4 x l h)∧Iw (Kux x l h)∧(Iw (Kt8 l x h)∧Iw (Kt9 l x h)∧Iw (Kt3 l x h)∧Iw (Ksr l x h)∧Iw (Ksq x l h))∧Iw (Nc x.1+1)∧∃(y:Nat×Int×Int×Int),Si h (Si (Z25 l) (J9u x y∧Si 0 (Si 0 (Si 0 (Si (Ji l).1 (Si (Ji l).2.1 (Ku4 x l h=y.2.1∧Kux x l h=y.2.2.1∧Ksq x l h=y.2.2.2∧Kg8 l)))))))∧Ks9 y l h x) (Iw (Nc x.1+1)∧∃(y:Nat×Int×Int×Int),Si h (Si (Z25 l) (J9u x y∧Si 0 (Si 0 (Si 0 (Si (Ji l).1 (Si (Ji l).2.1 (x.2.1=y.2.1∧x.2.2.1=y.2.2.1∧x.2.2.2=y.2.2.2∧Kg8 l)))))))∧Ks9 y l h x)) ((x.2.1,E2 x.2.2)=F5 l h∧0=F6 l h)))=_).mp ?_
 delta Z25 Z65 Z68 J1a Js1 J9u J09 J07 J06 J05 J04 Jc3 Kky Kzx Kzv Kzu Kzr Kzp Kzo Kzl Kzk J2y Kw9 Kw2 Jx9 Ku8 Khd Ku4 Kux Kg8 Kt9 Kt8 Kt3 Kty Ktj Ks9 Ksr Ksq Br Iw Bd Tw Si Ln Nc Gt B0 E2
 intro hl
 refine⟨⟨hl,by decide⟩,by decide,fun e=> ?_,fun e=> ?_⟩
 ·have e:F6 l h≠0:=bne_iff_ne.1 e
  exact⟨by unfold F5;rw[if_neg e],rfl⟩
 ·have e0:F6 l h=0:=bne_eq_false_iff_eq.1 e
  clear e
  have hr:=Fw (l:=l)
  have nO:=hr.nO
  have hst:h<(Ji l).2.1:=by
   have:=(J4p e0).2.2
   by_cases q:(Ji l).2.1≤h
   ·rw[decide_eq_true q] at this;cases this
   ·omega
  refine⟨((0:Nat),0,0,0),by(repeat' first|exact rfl|exact⟨⟩|apply And.intro|omega|dsimp only;omega),⟨e0,Nat.zero_le _,by omega,by omega,by omega,by unfold F5;rw[if_pos e0];rfl⟩,fun(x:Nat×H3) hk=>⟨fun h1=> ?_,fun h1=> ?_⟩⟩
  ·obtain⟨k,a,b,c⟩:=x
   have hlt:k<(Ji l).2.2.2.1.length:=by simpa using h1
   obtain⟨_,k1,k2,k3,k4,k5⟩:=hk
   generalize Ji l=r at*
   obtain⟨tk,st,S,O,M,X,Q⟩:=r
   have hlt:k<O.length:=hlt
   have hst:h<st:=hst
   have nO:O.length≤32:=nO
   have hx:=Jc (d:=Ki) hlt
   have k5:D0 M h (O.drop k) (a,b,c)=F5 l h:=k5
   rw[Jq (d:=Ki) hlt,D0] at k5
   have hz:((({data:={toList:=[]}}:ByteArray),({data:={toList:=[]}}:ByteArray),({data:={toList:=[]}}:ByteArray),((0:Int),(0:Int)),(0:Int),(0:Int),(0:Int)):Ord)=Ki:=rfl
   have hzm:((({data:={toList:=[]}}:ByteArray),(0:Int),(0:Int),(0:Int)):Met)=Ji9:=rfl
   simp only[hz,hzm,Prod.eta]
   have hO:Jcd S (O.getD k Ki):=hr.ord _ hx
   have hd:∀h,Jr (O.getD k Ki) h=true→h<st→0≤Kz M (O.getD k Ki).1 h:=hr.done _ hx
   generalize O.getD k Ki=y at*
   unfold J4l at k5
   have bp:=hO.pow
   have bc:=hO.pri
   have em:M.getD (Kz M y.1 h).toNat Ji9=Db M y.1 h:=rfl
   simp only[em]
   refine⟨by(repeat' first|apply And.intro|omega),fun hq=> ?_,fun hq=> ?_⟩
   ·rw[hq,cond_true] at k5
    have hm:=hd _ hq hst
    have hl:=Jas (l:=M) (s:=y.1) (h:=h)
    have hM:Jsm (Db M y.1 h):=hr.met _ (Jc (show _<M.length by omega))
    have m1:=hM.sent
    have m2:=hM.got
    have q1:0≤(Db M y.1 h).2.2.2*y.2.2.2.2.2.1:=Int.mul_nonneg m2.1 bc.1
    have q2:(Db M y.1 h).2.2.2*y.2.2.2.2.2.1≤1000*1000:=Int.mul_le_mul (by omega) bc.2 bc.1 (by decide)
    exact⟨⟨hr,by(repeat' first|apply And.intro|omega),by(repeat' first|apply And.intro|omega)⟩,by(repeat' first|apply And.intro|omega),by(repeat' first|apply And.intro|omega),by(repeat' first|apply And.intro|omega),by(repeat' first|apply And.intro|omega),(k+1,a+(Db M y.1 h).2.2.1,b+(Db M y.1 h).2.2.2,c+((Db M y.1 h).2.2.2*y.2.2.2.2.2.1-3*(y.2.2.2.2.1-(Db M y.1 h).2.2.2))),by(repeat' first|exact rfl|exact⟨⟩|apply And.intro|omega|dsimp only;omega),⟨e0,by(first|omega|dsimp only;omega),by(first|omega|dsimp only;omega),by(first|omega|dsimp only;omega),by(first|omega|dsimp only;omega),k5⟩,by(first|omega|dsimp only;omega)⟩
   ·rw[hq,cond_false] at k5
    exact⟨by(repeat' first|apply And.intro|omega),(k+1,a,b,c),by(repeat' first|exact rfl|exact⟨⟩|apply And.intro|omega|dsimp only;omega),⟨e0,by(first|omega|dsimp only;omega),by(first|omega|dsimp only;omega),by(first|omega|dsimp only;omega),by(first|omega|dsimp only;omega),k5⟩,by(first|omega|dsimp only;omega)⟩
  ·obtain⟨k,a,b,c⟩:=x
   have hlt:¬k<(Ji l).2.2.2.1.length:=by simpa using h1
   obtain⟨_,k1,k2,k3,k4,k5⟩:=hk
   have:k=(Ji l).2.2.2.1.length:=by omega
   rw[this,List.drop_length,D0] at k5
   exact⟨k5,e0.symm⟩
abbrev K3i:=K3j.add K5r
def cAb (pre:Reg→Ev→List Prop) (f:Reg→Ev→ByteArray→Bool):Con:={args:=[Jbf,aEv,aS],ress:=[Bo],owns:=[],pre:=fun(r,e,_)=>pre r e,spec:=fun(r,e,s,_)=>(f r e s,())}
def Kb7:Con:=cAb (fun _ _=>[]) (fun _ _ _=>true)
theorem Kow:Ok Tryz.prog 150 Kb7:=okW K3i Tryz.f150 na fun xx=>by
 obtain⟨⟨(tk:Int),(st:Int),(S:List Sta),(O:List Ord),(M:List Met),(X:List Out),(Q:List Per)⟩,⟨(n:Int),(k:ByteArray),(ns:List ByteArray),(vs:List Int),(tx:ByteArray)⟩,(s:ByteArray),_⟩:=xx
 refine(by kernel_rfl:(true=true)=_).mp ?_
 rfl
abbrev K3h:=K3i.add Kow
def abO (O:List Ord) (ns:List ByteArray) (s:ByteArray):Bool:=Fn (X1 O (ns.getD 0 Ja)) s
def K6k:Con:={args:=[Jbf,aEv,aS],ress:=[Bo],owns:=[],pre:=fun(r,e,_)=>[Jl r,1≤e.2.2.1.length,0≤Kw r.2.2.2.1 (e.2.2.1.getD 0 Ja)],spec:=fun((tk,st,S,O,M,X,Q),(n,k,ns,vs,tx),s,_)=>(abO O ns s,())}
theorem Koq:Ok Tryz.prog 156 K6k:=okW K3h Tryz.f156 na fun xx=>by
 obtain⟨⟨(tk:Int),(st:Int),(S:List Sta),(O:List Ord),(M:List Met),(X:List Out),(Q:List Per)⟩,⟨(n:Int),(k:ByteArray),(ns:List ByteArray),(vs:List Int),(tx:ByteArray)⟩,(s:ByteArray),_⟩:=xx
 refine(by kernel_rfl:(Jw tk st S O M X Q→Y4 ns→Jsy O ns→Ki1 ns O∧Fn (Kgu O ns) s=abO O ns s)=_).mp ?_
 delta Z53 Z63 Z83 Z84 Lu Y4 Jw J6r Jqo J9k J6o J9h Jsy Ki1 Kgu Bd T2 Ln B0 E2
 intro hr h1 h2
 have nO:O.length≤32:=hr.nO
 repeat' first|assumption|exact rfl|trivial|omega|exact K6|exact Ua|exact K0|exact Ul|apply And.intro|intro _
abbrev K3g:=K3h.add Koq
def abX (X:List Out) (ns:List ByteArray) (s:ByteArray):Bool:=(Ly X (ns.getD 0 Ja)).2.1.toList==s.toList
def K6i:Con:={args:=[Jbf,aEv,aS],ress:=[Bo],owns:=[],pre:=fun(r,e,_)=>[Jl r,1≤e.2.2.1.length,0≤J7 r.2.2.2.2.2.1 (e.2.2.1.getD 0 Ja)],spec:=fun((tk,st,S,O,M,X,Q),(n,k,ns,vs,tx),s,_)=>(abX X ns s,())}
theorem Koj:Ok Tryz.prog 163 K6i:=okW K3g Tryz.f163 na fun xx=>by
 obtain⟨⟨(tk:Int),(st:Int),(S:List Sta),(O:List Ord),(M:List Met),(X:List Out),(Q:List Per)⟩,⟨(n:Int),(k:ByteArray),(ns:List ByteArray),(vs:List Int),(tx:ByteArray)⟩,(s:ByteArray),_⟩:=xx
 refine(by kernel_rfl:(Jw tk st S O M X Q→Y4 ns→J02 X ns→Ki2 ns X∧Lb (J9r X ns).2.1 s=abX X ns s)=_).mp ?_
 delta Z48 Z63 Z83 Z84 Lu Y4 Jw J9r Js0 J02 Ki2 Bd T2 Ln B0 Lb
 intro hr h1 h2
 have nX:X.length≤16:=hr.nX
 repeat' first|assumption|exact rfl|trivial|omega|exact K6|exact Ua|exact K0|exact Ul|apply And.intro|intro _
abbrev K3f:=K3g.add Koj
def abP (X:List Out) (Q:List Per) (ns:List ByteArray) (s:ByteArray):Bool:=(Ly X (Jj5 Q (ns.getD 0 Ja)).2.1).2.1.toList==s.toList
def K6j:Con:={args:=[Jbf,aEv,aS],ress:=[Bo],owns:=[],pre:=fun(r,e,_)=>[Jl r,1≤e.2.2.1.length,0≤Uy r.2.2.2.2.2.2 (e.2.2.1.getD 0 Ja)],spec:=fun((tk,st,S,O,M,X,Q),(n,k,ns,vs,tx),s,_)=>(abP X Q ns s,())}
theorem Jiw {Q:List Per} {s:ByteArray} (h:0≤Uy Q s):Jj5 Q s∈Q:=by
 have:=Ul (l:=Q) (s:=s)
 exact Jc (by omega)
theorem Koe:Ok Tryz.prog 168 K6j:=okW K3f Tryz.f168 na fun xx=>by
 obtain⟨⟨(tk:Int),(st:Int),(S:List Sta),(O:List Ord),(M:List Met),(X:List Out),(Q:List Per)⟩,⟨(n:Int),(k:ByteArray),(ns:List ByteArray),(vs:List Int),(tx:ByteArray)⟩,(s:ByteArray),_⟩:=xx
 refine(by kernel_rfl:(Jw tk st S O M X Q→Y4 ns→J01 Q ns→T2 (Z84 ns) (Z52 Q∧0≤Jsb Q ns∧Z48 X∧0≤J7 X (Jj5 Q (Z83 ns)).2.1)∧Lb (Ly X (Jj5 Q (Z83 ns)).2.1).2.1 s=abP X Q ns s)=_).mp ?_
 delta Z48 Z52 Z63 Z83 Z84 Lu Y4 Jw Jsb J01 Bd T2 Ln B0 Lb
 intro hr h1 h2
 have nX:X.length≤16:=hr.nX
 have nQ:Q.length≤16:=hr.nQ
 have h3:0≤J7 X (Jj5 Q (ns.getD 0 Ja)).2.1:=hr.per _ (Jiw h2)
 repeat' first|assumption|exact rfl|trivial|omega|exact K6|exact Ua|exact K0|exact Ul|apply And.intro|intro _
abbrev Jqq:=K3f.add Koe
def abS (r:Reg) (e:Ev) (s:ByteArray):Bool:=match(Jj e.2.1).2.2.2.2 with
 |some 150=>true
 |some 156=>abO r.2.2.2.1 e.2.2.1 s
 |some 163=>abX r.2.2.2.2.2.1 e.2.2.1 s
 |some 168=>abP r.2.2.2.2.2.1 r.2.2.2.2.2.2 e.2.2.1 s
 |_=>false
structure Jge (r:Reg) (e:Ev):Prop where
 kind:Yw e.2.1=true
 ord:(Jj e.2.1).2.2.2.2=some 156→1≤e.2.2.1.length∧0≤Kw r.2.2.2.1 (e.2.2.1.getD 0 Ja)
 out:(Jj e.2.1).2.2.2.2=some 163→1≤e.2.2.1.length∧0≤J7 r.2.2.2.2.2.1 (e.2.2.1.getD 0 Ja)
 per:(Jj e.2.1).2.2.2.2=some 168→1≤e.2.2.1.length∧0≤Uy r.2.2.2.2.2.2 (e.2.2.1.getD 0 Ja)
def Xj:Con:={args:=[aEv, .ref 105 Jm3, .ref 9 .str],ress:=[Bo],owns:=[],pre:=fun(e,r,_)=>[Jl r,Jge r e],spec:=fun(e,r,s,_)=>(abS r e s,())}
def Z38:=false=true→False
theorem Js7 (n:Int) (ns:List ByteArray) (vs:List Int) (tx:ByteArray) (tk st:Int) (S:List Sta) (O:List Ord) (M:List Met) (X:List Out) (Q:List Per) (s:ByteArray):wpF Tryz.prog Jqq.g (na ()) Tryz.f79 Xj ((n,J0,ns,vs,tx),(tk,st,S,O,M,X,Q),s,()):=by
 refine(by kernel_rfl:(Jw tk st S O M X Q→Jge (Z63 tk st S O M X Q) (Z2 n ns vs tx)→Z38∧false=abS (Z63 tk st S O M X Q) (Z2 n ns vs tx) s)=_).mp ?_
 delta Z2 Z38 Z63 Jw J0
 intro hr ha
 have e:abS (tk,st,S,O,M,X,Q) (n,J0,ns,vs,tx) s=false:=by unfold abS;rw[show(Jj J0).2.2.2.2=_ from congrArg (fun x=>x.2.2.2.2) F2];all_goals rfl
 rw[e]
 repeat' first|exact hr|exact h.1|exact h.2|exact rfl|apply And.intro|intro _
 all_goals first|trivial|assumption|contradiction
theorem Jj9 (n:Int) (ns:List ByteArray) (vs:List Int) (tx:ByteArray) (tk st:Int) (S:List Sta) (O:List Ord) (M:List Met) (X:List Out) (Q:List Per) (s:ByteArray):wpF Tryz.prog Jqq.g (na ()) Tryz.f79 Xj ((n,Js,ns,vs,tx),(tk,st,S,O,M,X,Q),s,()):=by
 refine(by kernel_rfl:(Jw tk st S O M X Q→Jge (Z63 tk st S O M X Q) (Z29 n ns vs tx)→true=abS (Z63 tk st S O M X Q) (Z29 n ns vs tx) s)=_).mp ?_
 delta Z29 Z63 Jw Js
 intro hr ha
 have e:abS (tk,st,S,O,M,X,Q) (n,Js,ns,vs,tx) s=true:=by unfold abS;rw[show(Jj Js).2.2.2.2=_ from congrArg (fun x=>x.2.2.2.2) K2];all_goals rfl
 rw[e]
 repeat' first|exact hr|exact h.1|exact h.2|exact rfl|apply And.intro|intro _
 all_goals first|trivial|assumption|contradiction
theorem Jqt (n:Int) (ns:List ByteArray) (vs:List Int) (tx:ByteArray) (tk st:Int) (S:List Sta) (O:List Ord) (M:List Met) (X:List Out) (Q:List Per) (s:ByteArray):wpF Tryz.prog Jqq.g (na ()) Tryz.f79 Xj ((n,Kv,ns,vs,tx),(tk,st,S,O,M,X,Q),s,()):=by
 refine(by kernel_rfl:(Jw tk st S O M X Q→Jge (Z63 tk st S O M X Q) (Z10 n ns vs tx)→true=abS (Z63 tk st S O M X Q) (Z10 n ns vs tx) s)=_).mp ?_
 delta Z10 Z63 Jw Kv
 intro hr ha
 have e:abS (tk,st,S,O,M,X,Q) (n,Kv,ns,vs,tx) s=true:=by unfold abS;rw[show(Jj Kv).2.2.2.2=_ from congrArg (fun x=>x.2.2.2.2) U8];all_goals rfl
 rw[e]
 repeat' first|exact hr|exact h.1|exact h.2|exact rfl|apply And.intro|intro _
 all_goals first|trivial|assumption|contradiction
def Jyb (a:Ls):=true=true→Y4 a
def J8c (a b:Int) (c:List Sta) (d:List Ord) (e:List Met) (f:List Out) (g:List Per) (h:Ls):=(true=true→Jw a b c d e f g)∧Jyb h∧(true=true→Jsy d h)
theorem Jqu (n:Int) (ns:List ByteArray) (vs:List Int) (tx:ByteArray) (tk st:Int) (S:List Sta) (O:List Ord) (M:List Met) (X:List Out) (Q:List Per) (s:ByteArray):wpF Tryz.prog Jqq.g (na ()) Tryz.f79 Xj ((n,Ke,ns,vs,tx),(tk,st,S,O,M,X,Q),s,()):=by
 refine(by kernel_rfl:(Jw tk st S O M X Q→Jge (Z63 tk st S O M X Q) (Z12 n ns vs tx)→J8c tk st S O M X Q ns∧(bif true then abO O ns s else false)=abS (Z63 tk st S O M X Q) (Z12 n ns vs tx) s)=_).mp ?_
 delta Z12 Z63 Lu Y4 Jw Jyb Jsy J8c Ke
 intro hr ha
 have e:abS (tk,st,S,O,M,X,Q) (n,Ke,ns,vs,tx) s=abO O ns s:=by unfold abS;rw[show(Jj Ke).2.2.2.2=_ from congrArg (fun x=>x.2.2.2.2) Uj];all_goals rfl
 have h:=ha.ord (congrArg (fun x=>x.2.2.2.2) Uj)
 rw[e]
 repeat' first|exact hr|exact h.1|exact h.2|exact rfl|apply And.intro|intro _
 all_goals first|trivial|assumption|contradiction
theorem Jqv (n:Int) (ns:List ByteArray) (vs:List Int) (tx:ByteArray) (tk st:Int) (S:List Sta) (O:List Ord) (M:List Met) (X:List Out) (Q:List Per) (s:ByteArray):wpF Tryz.prog Jqq.g (na ()) Tryz.f79 Xj ((n,Kq,ns,vs,tx),(tk,st,S,O,M,X,Q),s,()):=by
 refine(by kernel_rfl:(Jw tk st S O M X Q→Jge (Z63 tk st S O M X Q) (Z11 n ns vs tx)→J8c tk st S O M X Q ns∧(bif true then abO O ns s else false)=abS (Z63 tk st S O M X Q) (Z11 n ns vs tx) s)=_).mp ?_
 delta Z11 Z63 Lu Y4 Jw Jyb Jsy J8c Kq
 intro hr ha
 have e:abS (tk,st,S,O,M,X,Q) (n,Kq,ns,vs,tx) s=abO O ns s:=by unfold abS;rw[show(Jj Kq).2.2.2.2=_ from congrArg (fun x=>x.2.2.2.2) Uk];all_goals rfl
 have h:=ha.ord (congrArg (fun x=>x.2.2.2.2) Uk)
 rw[e]
 repeat' first|exact hr|exact h.1|exact h.2|exact rfl|apply And.intro|intro _
 all_goals first|trivial|assumption|contradiction
theorem Js8 (n:Int) (ns:List ByteArray) (vs:List Int) (tx:ByteArray) (tk st:Int) (S:List Sta) (O:List Ord) (M:List Met) (X:List Out) (Q:List Per) (s:ByteArray):wpF Tryz.prog Jqq.g (na ()) Tryz.f79 Xj ((n,Vf,ns,vs,tx),(tk,st,S,O,M,X,Q),s,()):=by
 refine(by kernel_rfl:(Jw tk st S O M X Q→Jge (Z63 tk st S O M X Q) (Z5 n ns vs tx)→J8c tk st S O M X Q ns∧(bif true then abO O ns s else false)=abS (Z63 tk st S O M X Q) (Z5 n ns vs tx) s)=_).mp ?_
 delta Z5 Z63 Lu Y4 Jw Jyb Jsy J8c Vf
 intro hr ha
 have e:abS (tk,st,S,O,M,X,Q) (n,Vf,ns,vs,tx) s=abO O ns s:=by unfold abS;rw[show(Jj Vf).2.2.2.2=_ from congrArg (fun x=>x.2.2.2.2) Vg];all_goals rfl
 have h:=ha.ord (congrArg (fun x=>x.2.2.2.2) Vg)
 rw[e]
 repeat' first|exact hr|exact h.1|exact h.2|exact rfl|apply And.intro|intro _
 all_goals first|trivial|assumption|contradiction
def Khg (a b:Int) (c:List Sta) (d:List Ord) (e:List Met) (f:List Out) (g:List Per) (h:Ls):=(true=true→Jw a b c d e f g)∧Jyb h∧(true=true→J02 f h)
theorem Jmm (n:Int) (ns:List ByteArray) (vs:List Int) (tx:ByteArray) (tk st:Int) (S:List Sta) (O:List Ord) (M:List Met) (X:List Out) (Q:List Per) (s:ByteArray):wpF Tryz.prog Jqq.g (na ()) Tryz.f79 Xj ((n,Jt,ns,vs,tx),(tk,st,S,O,M,X,Q),s,()):=by
 refine(by kernel_rfl:(Jw tk st S O M X Q→Jge (Z63 tk st S O M X Q) (Z18 n ns vs tx)→Khg tk st S O M X Q ns∧(bif true then abX X ns s else false)=abS (Z63 tk st S O M X Q) (Z18 n ns vs tx) s)=_).mp ?_
 delta Z18 Z63 Lu Y4 Jw Jyb J02 Khg Jt
 intro hr ha
 have e:abS (tk,st,S,O,M,X,Q) (n,Jt,ns,vs,tx) s=abX X ns s:=by unfold abS;rw[show(Jj Jt).2.2.2.2=_ from congrArg (fun x=>x.2.2.2.2) Km];all_goals rfl
 have h:=ha.out (congrArg (fun x=>x.2.2.2.2) Km)
 rw[e]
 repeat' first|exact hr|exact h.1|exact h.2|exact rfl|apply And.intro|intro _
 all_goals first|trivial|assumption|contradiction
theorem Jka (n:Int) (ns:List ByteArray) (vs:List Int) (tx:ByteArray) (tk st:Int) (S:List Sta) (O:List Ord) (M:List Met) (X:List Out) (Q:List Per) (s:ByteArray):wpF Tryz.prog Jqq.g (na ()) Tryz.f79 Xj ((n,Jo,ns,vs,tx),(tk,st,S,O,M,X,Q),s,()):=by
 refine(by kernel_rfl:(Jw tk st S O M X Q→Jge (Z63 tk st S O M X Q) (Z31 n ns vs tx)→Khg tk st S O M X Q ns∧(bif true then abX X ns s else false)=abS (Z63 tk st S O M X Q) (Z31 n ns vs tx) s)=_).mp ?_
 delta Z31 Z63 Lu Y4 Jw Jyb J02 Khg Jo
 intro hr ha
 have e:abS (tk,st,S,O,M,X,Q) (n,Jo,ns,vs,tx) s=abX X ns s:=by unfold abS;rw[show(Jj Jo).2.2.2.2=_ from congrArg (fun x=>x.2.2.2.2) J8];all_goals rfl
 have h:=ha.out (congrArg (fun x=>x.2.2.2.2) J8)
 rw[e]
 repeat' first|exact hr|exact h.1|exact h.2|exact rfl|apply And.intro|intro _
 all_goals first|trivial|assumption|contradiction
def Khf (a b:Int) (c:List Sta) (d:List Ord) (e:List Met) (f:List Out) (g:List Per) (h:Ls):=(true=true→Jw a b c d e f g)∧Jyb h∧(true=true→J01 g h)
theorem Jml (n:Int) (ns:List ByteArray) (vs:List Int) (tx:ByteArray) (tk st:Int) (S:List Sta) (O:List Ord) (M:List Met) (X:List Out) (Q:List Per) (s:ByteArray):wpF Tryz.prog Jqq.g (na ()) Tryz.f79 Xj ((n,J6,ns,vs,tx),(tk,st,S,O,M,X,Q),s,()):=by
 refine(by kernel_rfl:(Jw tk st S O M X Q→Jge (Z63 tk st S O M X Q) (Z19 n ns vs tx)→Khf tk st S O M X Q ns∧(bif true then abP X Q ns s else false)=abS (Z63 tk st S O M X Q) (Z19 n ns vs tx) s)=_).mp ?_
 delta Z19 Z63 Lu Y4 Jw Jyb J01 Khf J6
 intro hr ha
 have e:abS (tk,st,S,O,M,X,Q) (n,J6,ns,vs,tx) s=abP X Q ns s:=by unfold abS;rw[show(Jj J6).2.2.2.2=_ from congrArg (fun x=>x.2.2.2.2) Ku];all_goals rfl
 have h:=ha.per (congrArg (fun x=>x.2.2.2.2) Ku)
 rw[e]
 repeat' first|exact hr|exact h.1|exact h.2|exact rfl|apply And.intro|intro _
 all_goals first|trivial|assumption|contradiction
theorem Jmk (n:Int) (ns:List ByteArray) (vs:List Int) (tx:ByteArray) (tk st:Int) (S:List Sta) (O:List Ord) (M:List Met) (X:List Out) (Q:List Per) (s:ByteArray):wpF Tryz.prog Jqq.g (na ()) Tryz.f79 Xj ((n,J5,ns,vs,tx),(tk,st,S,O,M,X,Q),s,()):=by
 refine(by kernel_rfl:(Jw tk st S O M X Q→Jge (Z63 tk st S O M X Q) (Z22 n ns vs tx)→Khf tk st S O M X Q ns∧(bif true then abP X Q ns s else false)=abS (Z63 tk st S O M X Q) (Z22 n ns vs tx) s)=_).mp ?_
 delta Z22 Z63 Lu Y4 Jw Jyb J01 Khf J5
 intro hr ha
 have e:abS (tk,st,S,O,M,X,Q) (n,J5,ns,vs,tx) s=abP X Q ns s:=by unfold abS;rw[show(Jj J5).2.2.2.2=_ from congrArg (fun x=>x.2.2.2.2) Kt];all_goals rfl
 have h:=ha.per (congrArg (fun x=>x.2.2.2.2) Kt)
 rw[e]
 repeat' first|exact hr|exact h.1|exact h.2|exact rfl|apply And.intro|intro _
 all_goals first|trivial|assumption|contradiction
theorem Jmj (n:Int) (ns:List ByteArray) (vs:List Int) (tx:ByteArray) (tk st:Int) (S:List Sta) (O:List Ord) (M:List Met) (X:List Out) (Q:List Per) (s:ByteArray):wpF Tryz.prog Jqq.g (na ()) Tryz.f79 Xj ((n,Jh,ns,vs,tx),(tk,st,S,O,M,X,Q),s,()):=by
 refine(by kernel_rfl:(Jw tk st S O M X Q→Jge (Z63 tk st S O M X Q) (Z20 n ns vs tx)→Z38∧false=abS (Z63 tk st S O M X Q) (Z20 n ns vs tx) s)=_).mp ?_
 delta Z20 Z38 Z63 Jw Jh
 intro hr ha
 have e:abS (tk,st,S,O,M,X,Q) (n,Jh,ns,vs,tx) s=false:=by unfold abS;rw[show(Jj Jh).2.2.2.2=_ from congrArg (fun x=>x.2.2.2.2) Us];all_goals rfl
 rw[e]
 repeat' first|exact hr|exact h.1|exact h.2|exact rfl|apply And.intro|intro _
 all_goals first|trivial|assumption|contradiction
theorem J3j [Sx.Dr] {Γ:Gam} {ann:Nat→Option Ann} {fn:Func} {c:Con} {x:ATup c.args} (hb:fn.body.isSome=true) (h:Uq (c.pre x)→wpF Tryz.prog Γ ann fn c x):wpF Tryz.prog Γ ann fn c x:=by
 unfold wpF at h⊢
 cases hc:fn.body with
 |none=>rw[hc] at hb;cases hb
 |some code=>
  rw[hc] at h
  exact Jau h
theorem K35:∀x:ATup [aEv, .ref 105 Jm3, .ref 9 .str],wpF Tryz.prog Jqq.g (na ()) Tryz.f79 Xj x
 |((n,k,ns,vs,tx),(tk,st,S,O,M,X,Q),s,())=>by
  refine J3j (by kernel_rfl) fun hp=> ?_
  have ha:Jge (tk,st,S,O,M,X,Q) (n,k,ns,vs,tx):=hp.2
  rcases U4 ha.kind with h|h|h|h|h|h|h|h|h|h|h<;>dsimp only at h<;>subst h
  ·exact Js7 n ns vs tx tk st S O M X Q s
  ·exact Jj9 n ns vs tx tk st S O M X Q s
  ·exact Jqt n ns vs tx tk st S O M X Q s
  ·exact Jqu n ns vs tx tk st S O M X Q s
  ·exact Jqv n ns vs tx tk st S O M X Q s
  ·exact Js8 n ns vs tx tk st S O M X Q s
  ·exact Jmm n ns vs tx tk st S O M X Q s
  ·exact Jka n ns vs tx tk st S O M X Q s
  ·exact Jml n ns vs tx tk st S O M X Q s
  ·exact Jmk n ns vs tx tk st S O M X Q s
  ·exact Jmj n ns vs tx tk st S O M X Q s
theorem K4t:Ok Tryz.prog 79 Xj:=Vv mixed Jqq.ok (by kernel_rfl) (by kernel_rfl) na fun xx=>K35 xx
abbrev K7m:=Jqq.add K4t
theorem Jav {α:Type} {p:α→Bool} {y:α} (h:p y=true):∀{l:List α} {k:Nat},0≤Vs p (l++[y]) k
 |[],k=>by
  show 0≤Vs p [y] k
  unfold Vs;rw[if_pos h];omega
 |x::l,k=>by
  show 0≤Vs p (x::(l++[y])) k
  unfold Vs
  split
  ·omega
  ·exact Jav h
structure Kf2 (r r':Reg):Prop where
 o:∀s,0≤Kw r.2.2.2.1 s→0≤Kw r'.2.2.2.1 s
 x:∀s,0≤J7 r.2.2.2.2.2.1 s→0≤J7 r'.2.2.2.2.2.1 s
 q:∀s,0≤Uy r.2.2.2.2.2.2 s→0≤Uy r'.2.2.2.2.2.2 s
theorem Jvk {O:List Ord} {y:Ord} {s:ByteArray} (h:0≤Kw O s):0≤Kw (O++[y]) s:=by unfold Kw at h⊢;rw[Yp h];exact h
theorem Jvi {O:List Out} {y:Out} {s:ByteArray} (h:0≤J7 O s):0≤J7 (O++[y]) s:=by unfold J7 at h⊢;rw[Yp h];exact h
theorem Jvj {O:List Per} {y:Per} {s:ByteArray} (h:0≤Uy O s):0≤Uy (O++[y]) s:=by unfold Uy at h⊢;rw[Yp h];exact h
theorem Jb1 {O:List Ord} {a s:ByteArray} {v:Int}:Kw (Fs O a v) s=Kw O s:=by
 unfold Kw Fs
 exact Dn fun x hx=>by
  have e:X1 O a=x:=Jfb hx
  rw[e]
theorem Jjo {O:List Out} {a s:ByteArray} {v:Int}:J7 (Jeb O a v) s=J7 O s:=by
 unfold J7 Jeb
 exact Dn fun x hx=>by
  have e:Ly O a=x:=Jfb hx
  rw[e]
theorem Jb0 {O:List Per} {a s:ByteArray}:Uy (Ft O a) s=Uy O s:=by
 unfold Uy Ft
 exact Dn fun x hx=>by
  have e:Jj5 O a=x:=Jfb hx
  rw[e]
theorem Jq7 (r:Reg) (e:Ev):Kf2 r (Ju r e):=by
 obtain⟨tk,st,S,O,M,X,Q⟩:=r
 obtain⟨n,k,ns,vs,tx⟩:=e
 unfold Ju doS
 split
 all_goals refine⟨fun s h=> ?_,fun s h=> ?_,fun s h=> ?_⟩
 all_goals first|exact h|(show 0≤Kw (Fs _ _ _) _;rw[Jb1];exact h)|(show 0≤J7 (Jeb _ _ _) _;rw[Jjo];exact h)|(show 0≤Uy (Ft _ _) _;rw[Jb0];exact h)|exact Jvk h|exact Jvi h|exact Jvj h|exact Jb1 (O:=O)▸h|exact Jjo (O:=X)▸h|exact Jb0 (O:=Q)▸h
theorem Jge.mono {r r':Reg} {e:Ev} (h:Jge r e) (hn:Kf2 r r'):Jge r' e:=
 ⟨h.kind,fun q=>⟨(h.ord q).1,hn.o _ (h.ord q).2⟩,fun q=>⟨(h.out q).1,hn.x _ (h.out q).2⟩,fun q=>⟨(h.per q).1,hn.q _ (h.per q).2⟩⟩
theorem Jir (s:ByteArray):(s.toList==s.toList)=true:=beq_self_eq_true _
theorem J3q {h:Kn} {e:Ev} (hc:Jb e=0) (ha:L1 h e=0) (hk:(e.2.1.toList==J0.toList)=false):Jge (Ju (Kd h.2.2) e) e:=by
 obtain⟨n,k,ns,vs,tx⟩:=e
 have hE:=Uo hc
 rw[Y1 hk] at ha
 obtain⟨z1,z2,z3,z4,z5⟩:=Jbb ha
 generalize Kd h.2.2=r at*
 obtain⟨tk,st,S,O,M,X,Q⟩:=r
 have hn:=hE.nn
 clear ha z4 z5
 have hkd:=U4 hE.kind
 dsimp only at hn hkd hk z3
 rcases hkd with h|h|h|h|h|h|h|h|h|h|h<;>subst h
 ·exact⟨hE.kind,fun q=>absurd q (by rw[F2];decide),fun q=>absurd q (by rw[F2];decide),fun q=>absurd q (by rw[F2];decide)⟩
 ·exact⟨hE.kind,fun q=>absurd q (by rw[K2];decide),fun q=>absurd q (by rw[K2];decide),fun q=>absurd q (by rw[K2];decide)⟩
 ·exact⟨hE.kind,fun q=>absurd q (by rw[U8];decide),fun q=>absurd q (by rw[U8];decide),fun q=>absurd q (by rw[U8];decide)⟩
 ·simp only[Uj,List.length_cons,List.length_nil] at hn z3
  refine⟨hE.kind,fun _=>⟨by dsimp only;omega, ?_⟩,fun q=>absurd q (by rw[Uj];decide),fun q=>absurd q (by rw[Uj];decide)⟩
  unfold Ju doS
  simp only[Uj]
  exact Jav (p:=fun x:Ord=>x.1.toList==(ns.getD 0 Ja).toList) (l:=O) (Jir _)
 ·simp only[Uk,List.length_cons,List.length_nil] at hn z3
  refine⟨hE.kind,fun _=>⟨by dsimp only;omega, ?_⟩,fun q=>absurd q (by rw[Uk];decide),fun q=>absurd q (by rw[Uk];decide)⟩
  unfold Ju doS
  simp only[Uk]
  exact J2i ((Jn z3).1 rfl)
 ·simp only[Vg,List.length_cons,List.length_nil] at hn z3
  refine⟨hE.kind,fun _=>⟨by dsimp only;omega, ?_⟩,fun q=>absurd q (by rw[Vg];decide),fun q=>absurd q (by rw[Vg];decide)⟩
  unfold Ju doS
  simp only[Vg]
  exact by show 0≤Kw (Fs _ _ _) _;rw[Jb1];exact J2i ((Jn z3).1 rfl)
 ·simp only[Km,List.length_cons,List.length_nil] at hn z3
  refine⟨hE.kind,fun q=>absurd q (by rw[Km];decide),fun _=>⟨by dsimp only;omega, ?_⟩,fun q=>absurd q (by rw[Km];decide)⟩
  unfold Ju doS
  simp only[Km]
  exact Jav (p:=fun x:Out=>x.1.toList==(ns.getD 0 Ja).toList) (l:=X) (Jir _)
 ·simp only[J8,List.length_cons,List.length_nil] at hn z3
  refine⟨hE.kind,fun q=>absurd q (by rw[J8];decide),fun _=>⟨by dsimp only;omega, ?_⟩,fun q=>absurd q (by rw[J8];decide)⟩
  unfold Ju doS
  simp only[J8]
  exact by show 0≤J7 (Jeb _ _ _) _;rw[Jjo];exact J2h ((Jn z3).1 rfl)
 ·simp only[Ku,List.length_cons,List.length_nil] at hn z3
  refine⟨hE.kind,fun q=>absurd q (by rw[Ku];decide),fun q=>absurd q (by rw[Ku];decide),fun _=>⟨by dsimp only;omega, ?_⟩⟩
  unfold Ju doS
  simp only[Ku]
  exact Jav (p:=fun x:Per=>x.1.toList==(ns.getD 0 Ja).toList) (l:=Q) (Jir _)
 ·simp only[Kt,List.length_cons,List.length_nil] at hn z3
  refine⟨hE.kind,fun q=>absurd q (by rw[Kt];decide),fun q=>absurd q (by rw[Kt];decide),fun _=>⟨by dsimp only;omega, ?_⟩⟩
  unfold Ju doS
  simp only[Kt]
  exact by show 0≤Uy (Ft _ _) _;rw[Jb0];exact Kga ((Jn z3).1 rfl)
 ·exact⟨hE.kind,fun q=>absurd q (by rw[Us];decide),fun q=>absurd q (by rw[Us];decide),fun q=>absurd q (by rw[Us];decide)⟩
def Jme (h:Kn):Prop:=∀j k,j<h.2.1.length→j≤k→k<h.2.2.length→Jge (h.2.2.getD k U0) (h.2.1.getD j ev0)
theorem Jls {α:Type} {l:List α} {m k:Nat} {d:α} (h:k<m):(l.take m).getD k d=l.getD k d:=by
 rw[List.getD_eq_getElem?_getD,List.getD_eq_getElem?_getD,List.getElem?_take_of_lt h]
theorem Jjm {α:Type} {l m:List α} {k:Nat} {d:α} (h:k<l.length):(l++m).getD k d=l.getD k d:=by
 rw[List.getD_eq_getElem?_getD,List.getD_eq_getElem?_getD,List.getElem?_append_left h]
theorem Jlt {α:Type} {l:List α} {y d:α}:(l++[y]).getD l.length d=y:=by
 rw[List.getD_eq_getElem?_getD,List.getElem?_append_right (Nat.le_refl _),Nat.sub_self];rfl
theorem Kre {h:Kn} {e:Ev} (hi:Y7 h) (hA:Jme h) (ha:Up h e=0):Jme (Dv h e):=by
 obtain⟨hc,hacc⟩:=add_zero ha
 have n3:=hi.ok.nG
 have hlast:∀e'∈[e],(e.2.1.toList==J0.toList)=false→Jge (Ju (Kd h.2.2) e) e:=fun _ _ hk=>J3q hc hacc hk
 obtain⟨E,C,G⟩:=h
 dsimp only at n3
 cases hk:e.2.1.toList==J0.toList with
 |true=>
  unfold Dv
  rw[hk,cond_true]
  intro j k h1 h2 h3
  simp only[List.length_take] at h1 h3
  dsimp only
  rw[Jls (by omega),Jls (by omega)]
  exact hA j k (by dsimp only;omega) h2 (by dsimp only;omega)
 | false =>
  unfold Dv
  rw[hk,cond_false]
  intro j k h1 h2 h3
  simp only[List.length_append,List.length_singleton] at h1 h3
  dsimp only
  by_cases hkn:k<G.length
  ·rw[Jjm hkn,Jjm (by omega)]
   exact hA j k (by dsimp only;omega) h2 (by dsimp only;omega)
  ·have ek:k=G.length:=by omega
   rw[ek,Jlt]
   by_cases hj:j<C.length
   ·rw[Jjm hj]
    have:=hA j (G.length-1) hj (by omega) (by dsimp only;omega)
    exact this.mono (Jq7 (Kd G) e)
   ·have ej:j=C.length:=by omega
    rw[ej,Jlt]
    exact hlast e (List.mem_singleton.2 rfl) hk
theorem J16:∀{l:List Ev} {h:Kn},Y7 h→Jme h→h.1.length+l.length≤1000→Jme (Jc5 h l).1
 |[],_,_,hA,_=>hA
 | e :: l, h, hi, hA, hl => by
  unfold Jc5
  simp only[List.length_cons] at hl
  by_cases ha:Up h e=0
  ·rw[if_pos ha]
   exact J16 (Jf1 hi (by omega) ha) (Kre hi hA ha) (by rw[Du];omega)
  ·rw[if_neg ha];exact hA
theorem Jva:Jme Zz:=fun j k h1 _ _=>by cases h1
theorem Jo2 {l:List Ev}:Jme (Je l).1:=by
 unfold Je
 by_cases h:1000<l.length
 ·rw[if_pos h];exact Jva
 ·rw[if_neg h];exact J16 Hd Jva (by show 0+l.length≤1000;omega)
theorem J2b {h:Kn} (hi:Y7 h) (hA:Jme h) {e:Ev} (he:e∈h.2.1):Jge (Kd h.2.2) e:=by
 obtain⟨j,hj,rfl⟩:=List.mem_iff_getElem.1 he
 have n3:=hi.ok.nG
 have:=hA j (h.2.2.length-1) hj (by omega) (by omega)
 rw[List.getD_eq_getElem?_getD (l:=h.2.1),List.getElem?_eq_getElem hj] at this
 exact this
def Vt (xs:List ByteArray) (sep:ByteArray):ByteArray:=⟨(Lib.join (xs.map (·.data.toList)) sep.data.toList).toArray⟩
def Kqs:Con:={args:=[.val false (.list 9 .str),aS],ress:=[tS],owns:=[],pre:=fun(xs,sep,_)=>[xs.length≤1000000,(Lib.join (xs.map (·.data.toList)) sep.data.toList).length≤140737488355328],spec:=fun(xs,sep,_)=>(Vt xs sep,())}
def Vk (n:Int):ByteArray:=⟨(Lib.itoa n).toArray⟩
def Kqt:Con:={args:=[aI],ress:=[tS],owns:=[],pre:=fun(n,_)=>[-9223372036854775808≤n∧n≤9223372036854775807],spec:=fun(n,_)=>(Vk n,())}
theorem J0h (w:World) (q:Nat) (os:Array Obj):RowKit.Below w.heap.size w (Sort.grow (w.drewN q) os):=
 ⟨rfl,rfl,rfl,by first|(simp[Sort.grow];done)|(simp[Sort.grow];omega),fun i hi=>by
  show((w.drewN q).heap++os)[i]? =_
  rw[Array.getElem?_append_left (by show i<w.heap.size;omega)]
  rfl⟩
theorem Kpl:Ok Tryz.prog 122 Kqt:=by
 refine⟨⟨Tryz.f122,by kernel_rfl,by kernel_rfl,by kernel_rfl⟩,fun z hz=>(by cases hz),fun F hF=>(by cases hF),fun _ x M R w vs hM hg hpre hargs=> ?_⟩
 obtain⟨n,u⟩:=x
 obtain⟨v,vs',rfl,ha,hr⟩:=hargs
 have hr:vs'=[]:=hr
 subst hr
 obtain⟨cs,rfl,hc⟩:=ha
 have hc:cs=[.int .i64 n]:=hc
 subst hc
 have hpre: -9223372036854775808≤n∧n≤9223372036854775807:=hpre
 refine(Tryz.strconv_Itoa n hpre.1 hpre.2 w (hg w (Sx.Below.refl _ _)).1).mono ?_
 rintro e w' ⟨rfl,k,os,rfl⟩
 exact⟨M,[.string (Vk n)],rfl, .ofK (J0h w k os),fun _ h=>h,fun b h=> .inl h,_,[],rfl,⟨_,rfl,rfl⟩,rfl⟩
theorem Kpk:Ok Tryz.prog 123 Kqs:=by
 refine⟨⟨Tryz.f123,by kernel_rfl,by kernel_rfl,by kernel_rfl⟩,fun z hz=>(by cases hz),fun F hF=>(by cases hF),fun _ x M R w vs hM hg hpre hargs=> ?_⟩
 obtain⟨xs,sep,u⟩:=x
 obtain⟨v,vs',rfl,ha,v2,vs2,rfl,hb,hr⟩:=hargs
 have hr:vs2=[]:=hr
 subst hr
 obtain⟨cs,rfl,hc⟩:=ha
 obtain⟨cs2,rfl,hc2⟩:=hb
 have hc2:cs2=[.string sep]:=hc2
 subst hc2
 obtain⟨v,flat,rfl,f1,f2⟩:=hc
 obtain⟨p1,p2⟩:=hpre
 have hflat:=Jeg f1
 have fin:∀(e:Ending) (w':World),e= .returned (.string (Vt xs sep))→RowKit.Below w.heap.size w w'→Jog M w [tS] [] (Vt xs sep,()) e w':=fun e w' he hb=>
  ⟨M,[.string (Vt xs sep)],he, .ofK hb,fun _ h=>h,fun b h=> .inl h,_,[],rfl,⟨_,rfl,rfl⟩,rfl⟩
 rcases f2 with⟨rfl|⟨ad,cap,rfl⟩,h0⟩|⟨b,off,cap,rfl,hcap,hk,hm⟩
 ·have:xs=[]:=List.eq_nil_of_length_eq_zero h0
  subst this
  refine(Tryz.strings_Join_none none 0 sep w).mono ?_
  rintro e w' ⟨rfl,rfl⟩
  exact fin _ _ rfl (RowKit.Below.refl _ _)
 ·have:xs=[]:=List.eq_nil_of_length_eq_zero h0
  subst this
  refine(Tryz.strings_Join_none (some ad) cap sep w).mono ?_
  rintro e w' ⟨rfl,rfl⟩
  exact fin _ _ rfl (RowKit.Below.refl _ _)
 ·cases hx:xs with
  |nil=>
   subst hx
   refine(Tryz.strings_Join_none (some ⟨b,off,none⟩) cap sep w).mono ?_
   rintro e w' ⟨rfl,rfl⟩
   exact fin _ _ rfl (RowKit.Below.refl _ _)
  |cons x0 r=>
   rw[←hx]
   have hne:flat≠[]:=by rw[hflat,hx];simp
   refine(Tryz.strings_Join b off cap xs sep w (fun j x hj=>hk j _ (by rw[hflat,List.getElem?_map,hj];rfl)) (hM b (.inl (hm hne))) (by omega) hcap p2).mono ?_
   rintro e w' ⟨rfl,hb⟩
   exact fin _ _ rfl hb
abbrev K7l:=K7m.add Kpk
abbrev K7k:=K7l.add Kpl
def Xz (s p:ByteArray):List ByteArray:=Lib.splitB p 0 (Lib.countB s p) s
def Jpz:Con:={args:=[aS,aS],ress:=[(false, .list 9 .str)],owns:=[true],pre:=fun(s,p,_)=>[s.size≤1000000,1≤p.size],spec:=fun(s,p,_)=>(Xz s p,())}
theorem Jg8 {M:Nat→Prop} {w:World}:∀{xs:List ByteArray},V9 (Rep M w .str) xs (xs.map Value.string)
 |[]=>rfl
 |x::xs=>⟨[.string x],xs.map Value.string,rfl,rfl,Jg8⟩
theorem K46:Ok Tryz.prog 61 Jpz:=by
 refine⟨⟨Tryz.f61,by kernel_rfl,by kernel_rfl,by kernel_rfl⟩,fun z hz=>(by cases hz),fun F hF=>(by cases hF),fun _ x M R w vs hM hg hpre hargs=> ?_⟩
 obtain⟨s,p,u⟩:=x
 obtain⟨v1,vs1,rfl,ha1,v2,vs2,rfl,ha2,hr⟩:=hargs
 have hr:vs2=[]:=hr
 subst hr
 obtain⟨cs1,rfl,hc1⟩:=ha1
 obtain⟨cs2,rfl,hc2⟩:=ha2
 have hc1:cs1=[.string s]:=hc1
 have hc2:cs2=[.string p]:=hc2
 subst hc1;subst hc2
 have hpre:s.size≤1000000∧1≤p.size:=hpre
 refine(Tryz.strings_Split_shaped s p w ((hg w (.refl _ _)).2 rfl).1 (by omega) hpre.2).mono ?_
 rintro e w' ⟨rfl,rfl⟩
 have hlen:(Xz s p).length=Lib.countB s p+1:=Lib.splitB_all p hpre.2 0 _ s rfl
 have hle:=Lib.countB_le p hpre.2 s.size s (Nat.le_refl _)
 refine⟨M,[_],rfl, .ofK ⟨rfl,rfl,rfl,by show w.heap.size≤(w.heap.push _).size;simp,fun i hi=> ?_⟩,fun _ h=>h,fun b h=> .inl h,_,[],rfl,⟨(Xz s p).map Value.string,Jg8,⟨by simp[Sch.size,Jpz], .inr ⟨w.heap.size,Lib.countB s p+1,_,by rw[show(Jpz.spec (s,p,u)).1=Xz s p from rfl,hlen],Nat.le_refl _,heap_alloc_new w _,by rw[show(Jpz.spec (s,p,u)).1=Xz s p from rfl,hlen];exact Nat.le_refl _, ?_, ?_, ?_⟩⟩, ?_⟩,rfl⟩
 ·show(w.heap.push _)[i]? =_
  rw[Array.getElem?_push]
  split
  ·omega
  ·rfl
 ·show _≤9223372036854775807
  have:s.size≤1000000:=hpre.1
  omega
 ·show(List.map Value.string (Xz s p)).toArray.size=_
  simp[Sch.size,hlen]
 ·show(List.map Value.string (Xz s p)).take ((Xz s p).length*1)=_
  rw[List.take_of_length_le (by simp)]
 ·intro g hgb hM'
  have:w.heap.size=g:=Option.some.inj hgb
  have:=hM g (.inl hM')
  omega
abbrev K7j:=K7k.add K46
def Kq1:Con:={args:=[],ress:=[],owns:=[],pre:=fun _=>[False],spec:=fun _=>(),prim:=some Kq6}
theorem J4v (s:ByteArray) (w:World) (hs:s.size≤1000000) (hg:Sx.Good Tryz.prog w):Calls Tryz.prog 260 #[.string s] w fun e w'=>∃u,e= .returned (.tuple #[.int .i64 (Jsu s),u])∧Jj3 (Jws s) u∧Sx.Below w.heap.size w w':=by
 have hw:=(hg w (.refl _ _)).2 rfl
 cases h:Lib.atoiAll s.data.toList
 ·rename_i v
  have e1:Jsu s=v:=by unfold Jsu;rw[h]
  have e2:Jws s=false:=by unfold Jws;rw[h]
  rw[e1,e2]
  refine Calls.mono (Any.strconv_Atoi_ok Tryz.laysAtoi s (by omega) v h w) ?_
  rintro e w' ⟨rfl,rfl|⟨t,rfl⟩⟩
  ·exact⟨_,rfl,rfl, .refl _ _⟩
  ·exact⟨_,rfl,rfl, .ofK (Lib.bytesWorld_below w _ t)⟩
 ·have e1:Jsu s=0:=by unfold Jsu;rw[h]
  have e2:Jws s=true:=by unfold Jws;rw[h]
  rw[e1,e2]
  obtain⟨tp,pe,hv⟩:=hw.2.1
  refine Calls.mono (Any.strconv_Atoi_syntax_var Tryz.laysAtoi s (by omega) h tp pe w hv) ?_
  rintro e w' ⟨N,rfl,_,_,hb⟩
  exact⟨_,rfl,⟨_,_,rfl⟩, .ofK hb⟩
 ·have e1:Jsu s=Lib.atoiSat s.data.toList:=by unfold Jsu;rw[h]
  have e2:Jws s=true:=by unfold Jws;rw[h]
  rw[e1,e2]
  obtain⟨tp,pe,hv⟩:=hw.2.2
  refine Calls.mono (Any.strconv_Atoi_range_var Tryz.laysAtoi s (by omega) h tp pe w hv) ?_
  rintro e w' ⟨N,rfl,_,_,hb⟩
  exact⟨_,rfl,⟨_,_,rfl⟩, .ofK hb⟩
theorem Kmv:Ok Tryz.prog 260 Kq1:=⟨⟨Tryz.f260,by kernel_rfl,by kernel_rfl,by kernel_rfl⟩,fun z hz=>(by cases hz),fun F hF=>(by cases hF;exact J5m fun s w hs hg=>J4v s w hs hg),fun _ x M R w vs _ _ hpre _=>False.elim hpre⟩
abbrev K7i:=K7j.add Kmv
def Jx3 (s p:ByteArray):ByteArray×ByteArray×Bool:=(⟨(Lib.cut s.data.toList p.data.toList).1.toArray⟩,⟨(Lib.cut s.data.toList p.data.toList).2.1.toArray⟩,(Lib.cut s.data.toList p.data.toList).2.2)
def K6d:Con:={args:=[aS,aS],ress:=[tS,tS,Bo],owns:=[],pre:=fun(s,_)=>[s.size≤1000000],spec:=fun(s,p,_)=>((Jx3 s p).1,(Jx3 s p).2.1,(Jx3 s p).2.2,())}
theorem J0i (w:World) (q:Nat):RowKit.Below w.heap.size w (w.drewN q):=⟨rfl,rfl,rfl,Nat.le_refl _,fun i _=>rfl⟩
theorem Kps:Ok Tryz.prog 107 K6d:=by
 refine⟨⟨Tryz.f107,by kernel_rfl,by kernel_rfl,by kernel_rfl⟩,fun z hz=>(by cases hz),fun F hF=>(by cases hF),fun _ x M R w vs hM hg hpre hargs=> ?_⟩
 obtain⟨s,p,u⟩:=x
 obtain⟨v1,vs1,rfl,ha1,v2,vs2,rfl,ha2,hr⟩:=hargs
 have hr:vs2=[]:=hr
 subst hr
 obtain⟨cs1,rfl,hc1⟩:=ha1
 obtain⟨cs2,rfl,hc2⟩:=ha2
 have hc1:cs1=[.string s]:=hc1
 have hc2:cs2=[.string p]:=hc2
 subst hc1;subst hc2
 have hpre:s.size≤1000000:=hpre
 refine(Tryz.strings_Cut_shaped s p w ((hg w (.refl _ _)).2 rfl).1 (by omega)).mono ?_
 rintro e w' ⟨rfl,n,rfl⟩
 exact⟨M,[.string (Jx3 s p).1, .string (Jx3 s p).2.1, .bool (Jx3 s p).2.2],rfl, .ofK (J0i w n),fun _ h=>h,fun b h=> .inl h,_,_,rfl,⟨_,rfl,rfl⟩,_,_,rfl,⟨_,rfl,rfl⟩,_,[],rfl,⟨_,rfl,rfl⟩,rfl⟩
abbrev K7h:=K7i.add Kps
def J96 (s:ByteArray) (n:Int):ByteArray:=⟨(Lib.repeatL s.data.toList n.toNat).toArray⟩
def K5z:Con:={args:=[aS,aI],ress:=[tS],owns:=[],pre:=fun(s,n,_)=>[s.size≤1000000,0≤n∧n≤1000000],spec:=fun(s,n,_)=>(J96 s n,())}
theorem Kmw:Ok Tryz.prog 258 K5z:=by
 refine⟨⟨Tryz.f258,by kernel_rfl,by kernel_rfl,by kernel_rfl⟩,fun z hz=>(by cases hz),fun F hF=>(by cases hF),fun _ x M R w vs hM hg hpre hargs=> ?_⟩
 obtain⟨s,n,u⟩:=x
 obtain⟨v1,vs1,rfl,ha1,v2,vs2,rfl,ha2,hr⟩:=hargs
 have hr:vs2=[]:=hr
 subst hr
 obtain⟨cs1,rfl,hc1⟩:=ha1
 obtain⟨cs2,rfl,hc2⟩:=ha2
 have hc1:cs1=[.string s]:=hc1
 have hc2:cs2=[.int .i64 n]:=hc2
 subst hc1;subst hc2
 obtain⟨p1,p2,p3⟩:=hpre
 have p1:s.size≤1000000:=p1
 have p2:0≤n:=p2
 have p3:n≤1000000:=p3
 obtain⟨c,rfl⟩:=Int.eq_ofNat_of_zero_le p2
 have p3:(c:Int)≤1000000:=p3
 have hm:s.size*c≤1000000*1000000:=Nat.mul_le_mul p1 (by omega)
 refine(Tryz.strings_Repeat s c w (by omega) (by omega)).mono ?_
 rintro e w' ⟨rfl,hb⟩
 exact⟨M,[.string (J96 s c)],rfl, .ofK hb,fun _ h=>h,fun b h=> .inl h,_,[],rfl,⟨_,rfl,rfl⟩,rfl⟩
abbrev K7g:=K7h.add Kmw
abbrev tI:Bool×Sch:=(false, .int .i64)
abbrev tB:Bool×Sch:=(false, .bool)
abbrev K38:Bool×Sch:=(false, .str)
abbrev taI:AK:= .val false (.int .i64)
abbrev taS:AK:= .val false .str
theorem J3i {n:Int} (h0:0≤n) (h1:n<256):IntKind.u8.wrap n=n:=by
 simp[IntKind.wrap,IntKind.signed,IntKind.bits]
 omega
def Xi (c:Int):Bool:=decide (48≤c)&&decide (c≤57)
theorem Jlo (c:Int):(bif decide (c<48) then true else decide (57<c))= !Xi c:=by
 unfold Xi
 have e1:decide (c<48)= !decide ((48:Int)≤c):=by rw[Bool.eq_iff_iff];simp
 have e2:decide ((57:Int)<c)= !decide (c≤57):=by rw[Bool.eq_iff_iff];simp
 rw[e1,e2]
 cases decide ((48:Int)≤c)<;>cases decide (c≤57)<;>rfl
def Kh:List UInt8→Int→Int×Bool
 |[],n=>(n,true)
 |c::r,n=>if Xi c.toNat=true then Kh r (10*n+(c.toNat-48)) else(0,false)
def Ja2 (s:ByteArray):Bool:=decide (s.size=0)||decide (9<s.size)||(decide (1<s.size)&&decide (Ja4 s 0=48))
def Kb (s:ByteArray):Int×Bool:=if Ja2 s=true then(0,false) else Kh s.data.toList 0
def J5c:Con:={args:=[taS],ress:=[tI,tB],owns:=[],pre:=fun(s,_)=>[s.size≤1000000],spec:=fun(s,_)=>((Kb s).1,(Kb s).2,())}
theorem Jwp (s:ByteArray):(bif bif ((s.size:Int)==0) then true else decide (9<(s.size:Int)) then true else bif decide (1<(s.size:Int)) then(((s.data.toList.getD 0 0).toNat:Int)==48) else false)=Ja2 s:=by
 have e1:((s.size:Int)==0)=decide (s.size=0):=by rw[Bool.eq_iff_iff];simp
 have e2:decide (9<(s.size:Int))=decide (9<s.size):=by rw[decide_eq_decide];omega
 have e3:decide (1<(s.size:Int))=decide (1<s.size):=by rw[decide_eq_decide];omega
 have e4:(((s.data.toList.getD 0 0).toNat:Int)==48)=decide (Ja4 s 0=48):=by rw[Bool.eq_iff_iff];simp[Ja4]
 have k:∀a b c d:Bool,(bif bif a then true else b then true else bif c then d else false)=(a||b||(c&&d)):=by decide
 rw[e1,e2,e3,e4,k];rfl
theorem Jfo {c:Nat} (h:Xi c=true):48≤c∧c≤57:=by
 unfold Xi at h
 simp only[Bool.and_eq_true,decide_eq_true_eq] at h
 omega
abbrev K7f:=K7g
theorem Jab:∀{l:List UInt8} {n:Int},0≤n→0≤(Kh l n).1∧(Kh l n).1<(n+1)*10^l.length
 |[],n,h=>⟨h,by simp[Kh];omega⟩
 | c :: r, n, h => by
  unfold Kh
  split
  ·rename_i hc
   have hr:=Jfo hc
   have ih:=Jab (l:=r) (n:=10*n+(c.toNat-48)) (by omega)
   refine⟨ih.1,Int.lt_of_lt_of_le ih.2 ?_⟩
   rw[List.length_cons,Int.pow_succ,Int.mul_comm (10^r.length),←Int.mul_assoc]
   exact Int.mul_le_mul_of_nonneg_right (by omega) (Int.pow_nonneg (by decide))
  ·refine⟨Int.le_refl _,Int.mul_pos (by omega) (Int.pow_pos (by decide))⟩
theorem Jnt (s:ByteArray):0≤(Kb s).1∧(Kb s).1<1000000000:=by
 unfold Kb
 split
 ·exact⟨Int.le_refl _,by decide⟩
 ·rename_i h
  have h:Ja2 s=false:=by simpa using h
  have h9:s.size≤9:=by
   unfold Ja2 at h
   simp only[Bool.or_eq_false_iff,decide_eq_false_iff_not] at h
   omega
  have:=Jab (l:=s.data.toList) (n:=0) (Int.le_refl _)
  refine⟨this.1,Int.lt_of_lt_of_le this.2 ?_⟩
  have hp:=Nat.pow_le_pow_right (n:=10) (by decide) h9
  have hl:s.data.toList.length=s.size:=by simp
  rw[hl,Int.zero_add,Int.one_mul]
  have e:((10:Int)^s.size)=((10^s.size:Nat):Int):=by simp
  rw[e]
  have h2:((10^s.size:Nat):Int)≤((10^9:Nat):Int):=Int.ofNat_le.2 hp
  have h3:((10^9:Nat):Int)=1000000000:=by decide
  omega
def Jj4 (c:UInt8):List UInt8→List (List UInt8)
 |[]=>[[]]
 |x::r=>if x=c then[]::Jj4 c r else match Jj4 c r with
  |[]=>[[x]]
  |h::t=>(x::h)::t
def bs (l:List UInt8):ByteArray:=⟨l.toArray⟩
def Jd8 (s:ByteArray) (c:Int):List ByteArray:=(Jj4 (UInt8.ofNat c.toNat) s.data.toList).map bs
theorem J3s (c:UInt8):∀l,Jj4 c l≠[]
 |[]=>by simp[Jj4]
 |x::r=>by
  unfold Jj4
  split
  ·simp
  ·split<;>simp
theorem Jam (c x:UInt8) (r:List UInt8):Jj4 c (x::r)=if x=c then[]::Jj4 c r else match Jj4 c r with
  |[]=>[[x]]
  |h::t=>(x::h)::t:=rfl
abbrev Kf0:=K7f
def X5 (n:Int):ByteArray:=⟨(Lib.itoa n).toArray⟩
def Jv3 (k:Nat):Con:={args:=[taI],ress:=[K38],owns:=[],pre:=fun(n,_)=>[k≤18,-(10^k:Int)<n,n<10^(k+1)],spec:=fun(n,_)=>(X5 n,())}
def Kim (a:Int):=(Iw (48+a)∧0<1)∧ByteArray.mk (Array.mk [UInt8.ofNat (Int.toNat (IntKind.wrap IntKind.u8 (48+a)))])=X5 a
def Z74 (a:Int):=0-Int.tmod a 10
def Kfy:=(10:Int)=0→False
def Ke0 (a:Nat):=(10:Int)^(a+(1:Nat))
def Kjp (a:Nat):= -10^a
def Ky3 (a:Int) (b:Nat):=Int.tdiv a 10<Ke0 b
def Kx0 (a:Nat) (b:Int):=Kjp a<Int.tdiv b 10
theorem Jyu {l:List UInt8} {n:Int} (h:l=Lib.itoa n):(⟨⟨l⟩⟩:ByteArray)=X5 n:=by subst h;rfl
theorem Jtd (u:Nat):(X5 (u:Int)).data.toList=Lib.decDigits u:=by unfold X5;rw[Lib.itoa_nonneg]
theorem J90 (u:Nat) (h:1≤u):(X5 (-(u:Int))).data.toList=45::Lib.decDigits u:=by unfold X5;rw[Lib.itoa_neg u h]
theorem Jie (n:Int) (h0: -9223372036854775808≤n) (h1:n≤9223372036854775807):(X5 n).size≤21:=by
 have:=Lib.itoa_length_le n h0 h1
 show(Lib.itoa n).toArray.size≤21
 simpa using this
theorem Jnw {u:Nat} (h:¬u<10):Lib.decDigits u=Lib.decDigits (u/10)++[UInt8.ofNat (48+u %10)]:=by rw[Lib.decDigits,dif_neg h]
theorem J10 {x:Nat} (h:x<10):UInt8.ofNat (IntKind.u8.wrap (48+(x:Int))).toNat=UInt8.ofNat (48+x):=by
 rw[J3i (by omega) (by omega)]
 congr 1
theorem Jk7 (n:Int) (h0:¬n<0) (h1:n<10):(⟨⟨[UInt8.ofNat (IntKind.u8.wrap (48+n)).toNat]⟩⟩:ByteArray)=X5 n:=by
 obtain⟨u,rfl⟩:=Int.eq_ofNat_of_zero_le (by omega:0≤n)
 refine Jyu ?_
 have e:Lib.itoa (u:Int)=Lib.decDigits u:=Lib.itoa_nonneg u
 have hu:u<10:=by omega
 rw[e,Lib.decDigits_one hu]
 exact congrArg (·::[]) (J10 hu)
theorem J9y (n:Int):wpF Tryz.prog Kf0.g (na ()) Tryz.f194 (Jv3 0) (n,()):=by
 refine(by kernel_rfl:(0≤18→-10^0<n→n<10^1→Br (decide (n<0)) (Br (decide ((-10)<n)) (Jxu 3 2) (Jxu 4 2)) (Br (decide (n<10)) (Kim n) (Jxu 7 2)))=_).mp ?_
 delta Kim Br Iw
 intro _ h0 h1
 have e0:(10:Int)^0=1:=rfl
 have e1:(10:Int)^1=10:=rfl
 rw[e0] at h0
 rw[e1] at h1
 refine⟨fun h=>absurd (of_decide_eq_true h) (by omega),fun h=>⟨fun h2=>⟨⟨by omega,by decide⟩,Jk7 n (of_decide_eq_false h) (of_decide_eq_true h2)⟩,fun h2=>absurd (of_decide_eq_false h2) (by omega)⟩⟩
theorem J9x (k:Nat) (n:Int):wpF Tryz.prog ((194,Jv3 k)::Kf0.g) (na ()) Tryz.f194 (Jv3 (k+1)) (n,()):=by
 refine(by kernel_rfl:(k+1≤18→-Ke0 k<n→n<10^(k+1+1)→Br (decide (n<0)) (Br (decide ((-10)<n)) ((Iw (0-n)∧k≤18∧Kjp k<0-n∧0-n<Ke0 k∧Nc (1+ByteArray.size (X5 (0-n)))≤9223372036854775807)∧ByteArray.mk (Array.mk (45::([]++(X5 (0-n)).data.toList)))=X5 n) ((Kfy∧Iw (Int.tdiv n 10)∧k≤18∧Kx0 k n∧Ky3 n k∧Kfy∧Iw (Z74 n)∧k≤18∧Kjp k<Z74 n∧Z74 n<Ke0 k∧Nc (ByteArray.size (X5 (Int.tdiv n 10))+ByteArray.size (X5 (Z74 n)))≤9223372036854775807)∧ByteArray.mk (Array.mk ((X5 (Int.tdiv n 10)).data.toList++(X5 (Z74 n)).data.toList))=X5 n)) (Br (decide (n<10)) (Kim n) ((Kfy∧Iw (Int.tdiv n 10)∧k≤18∧Kx0 k n∧Ky3 n k∧Kfy∧Iw (48+Int.tmod n 10)∧0<1∧Nc (ByteArray.size (X5 (Int.tdiv n 10))+1)≤9223372036854775807)∧ByteArray.mk (Array.mk ((X5 (Int.tdiv n 10)).data.toList++[UInt8.ofNat (Int.toNat (IntKind.wrap IntKind.u8 (48+Int.tmod n 10)))]))=X5 n)))=_).mp ?_
 delta Z74 Kfy Ke0 Kjp Ky3 Kx0 Kim Br Iw Nc
 intro hk h0 h1
 have hp0:(0:Int)<10^k:=Int.pow_pos (by decide)
 have hp1:(1:Int)≤10^k:=by omega
 have hp2:(10:Int)^k≤100000000000000000:=by
  have h:=Nat.pow_le_pow_right (n:=10) (by decide) (show k≤17 by omega)
  have h2:((10^k:Nat):Int)≤((10^17:Nat):Int):=Int.ofNat_le.2 h
  have h3:((10^17:Nat):Int)=100000000000000000:=by decide
  have e:((10:Int)^k)=((10^k:Nat):Int):=by simp
  omega
 have e1:(10:Int)^(k+1)=10^k*10:=Int.pow_succ ..
 have e2:(10:Int)^(k+1+1)=10^k*10*10:=by rw[Int.pow_succ,e1]
 rw[e1] at h0
 rw[e2] at h1
 rw[e1]
 generalize(10:Int)^k=p at*
 refine⟨fun h=>⟨fun h2=> ?_,fun h2=> ?_⟩,fun h=>⟨fun h2=>⟨⟨by have:=of_decide_eq_true h2;have:=of_decide_eq_false h;omega,by decide⟩,Jk7 n (of_decide_eq_false h) (of_decide_eq_true h2)⟩,fun h2=> ?_⟩⟩
 ·have h:=of_decide_eq_true h
  have h2:=of_decide_eq_true h2
  obtain⟨u,hu⟩:=Int.eq_ofNat_of_zero_le (by omega:0≤0-n)
  have hn:n= -(u:Int):=by omega
  have hs:=Jie (0-n) (by omega) (by omega)
  refine⟨⟨by omega,by omega,by omega,by omega,by omega⟩,Jyu ?_⟩
  rw[hu,Jtd,hn,Lib.itoa_neg u (by omega)];rfl
 ·have h:=of_decide_eq_true h
  have h2:=of_decide_eq_false h2
  obtain⟨u,hu⟩:=Int.eq_ofNat_of_zero_le (by omega:0≤0-n)
  have hn:n= -(u:Int):=by omega
  have ed:n.tdiv 10= -((u/10:Nat):Int):=by rw[hn,Int.neg_tdiv];rfl
  have em:n.tmod 10= -((u %10:Nat):Int):=by rw[hn,Int.neg_tmod];rfl
  have em2:0-n.tmod 10=((u %10:Nat):Int):=by rw[em];omega
  rw[em2,ed]
  have hs1:=Jie (-((u/10:Nat):Int)) (by omega) (by omega)
  have hs2:=Jie ((u %10:Nat):Int) (by omega) (by omega)
  refine⟨⟨by omega,by omega,by omega,by omega,by omega,by omega,by omega,by omega,by omega,by omega,by omega⟩,Jyu ?_⟩
  rw[J90 _ (by omega),Jtd,hn,Lib.itoa_neg u (by omega),Jnw (u:=u) (by omega),Lib.decDigits_one (i:=u %10) (by omega)];rfl
 ·have h:=of_decide_eq_false h
  have h2:=of_decide_eq_false h2
  obtain⟨u,hu⟩:=Int.eq_ofNat_of_zero_le (by omega:0≤n)
  subst hu
  have ed:(u:Int).tdiv 10=((u/10:Nat):Int):=rfl
  have em:(u:Int).tmod 10=((u %10:Nat):Int):=rfl
  rw[em,ed]
  have hs1:=Jie ((u/10:Nat):Int) (by omega) (by omega)
  refine⟨⟨by omega,by omega,by omega,by omega,by omega,by omega,by omega,by decide,by omega⟩,Jyu ?_⟩
  rw[Jtd,Lib.itoa_nonneg,Jnw (u:=u) (by omega),J10 (by omega)]
theorem J2a:∀k,Ok Tryz.prog 194 (Jv3 k)
 |0=>Vv mixed Kf0.ok (by kernel_rfl) (by kernel_rfl) na fun xx=>J9y xx.1
 |k+1=>Vv mixed (.cons (J2a k) Kf0.ok) (by kernel_rfl) rfl na fun xx=>J9x k xx.1
theorem Knw:Ok Tryz.prog 194 (Jv3 17):=J2a 17
abbrev K3e:=Kf0.add Knw
def Hi:List UInt8→Bool
 |[]=>true
 |b::r=>Xi (b.toNat:Int)&&Hi r
def Jss (s:ByteArray):Bool:=Hi s.data.toList&&decide (0<s.size)
def K6c:Con:={args:=[aS],ress:=[Bo],owns:=[],pre:=fun(s,_)=>[s.size≤1000000],spec:=fun(s,_)=>(Jss s,())}
abbrev Kcf (s:ByteArray):Ann:={X:=Nat,σ:=fun k=>⟨1,[(0, .one (.str s)),(6, .one (.sl 0))],[(0, .siter s k)]⟩,inv:=fun k=>k≤s.size∧Hi s.data.toList=Hi (s.data.toList.drop k),mu:=fun k=>s.size-k}
theorem Jhh {c:Int} (h:128≤c):Xi c=false:=by
 unfold Xi
 rw[decide_eq_false (show ¬c≤57 by omega),Bool.and_false]
def Kjf (a:Nat) (b:Bt):=a≤ByteArray.size b∧Hi (Z13 b)=Hi (List.drop a (Z13 b))
theorem Kn1:Ok Tryz.prog 186 K6c:=Jzd K3e Tryz.f186 (U1 (l:=([]:List (Nat×Func))) (by simp)) (fun xx=>Xr (Kcf xx.1)) (fun xx=>fun _=>na ()) fun xx=>by
 obtain⟨(s:ByteArray),_⟩:=xx
 refine(by kernel_rfl:(ByteArray.size s≤1000000→∃(x:Nat),Sf s (Sf s (0=x))∧Kjf x s∧∀(x:Nat),Kjf x s→(x<ByteArray.size s→Br true (Br (Kkh s x) (Sf true (false=Jss s)) (∃(y:Nat),Sf s (Sf s (x+Jgh s x=y))∧Kjf y s∧ByteArray.size s-y<ByteArray.size s-x)) (Sf true ((!Lb s B0)=Jss s)))∧((x<ByteArray.size s→False)→Br false False (Sf true ((!Lb s B0)=Jss s))))=_).mp ?_
 delta Z13 Kkh Kjf Br Sf B0 Lb
 intro hb
 refine⟨(0:Nat),⟨rfl,rfl,rfl⟩,⟨Nat.zero_le _,by simp⟩,fun(k:Nat) hk=>⟨fun h=>⟨fun _=>⟨fun h1=>⟨rfl, ?_⟩,fun h1=> ?_⟩,fun h=>(by cases h)⟩,fun h=> ?_⟩⟩
 ·rw[Jlo] at h1
  have h2:Xi (Yb s k)=false:=by simpa using h1
  unfold Jss
  have h3:Hi s.data.toList=false:=by
   rw[hk.2,Dt h,Hi]
   by_cases ha:(s[k]'h).toNat<128
   ·rw[←(Jdi h ha).1,h2];rfl
   ·rw[Jhh (by omega)];rfl
  rw[h3];rfl
 ·rw[Jlo] at h1
  have h2:Xi (Yb s k)=true:=by simpa using h1
  by_cases ha:(s[k]'h).toNat<128
  ·obtain⟨r1,r2⟩:=Jdi h ha
   refine⟨(k+1:Nat),⟨rfl,rfl,by rw[r2]⟩,⟨by omega, ?_⟩,by omega⟩
   rw[hk.2,Dt h,Hi,←r1,h2]
   rfl
  ·have:=Jky h (by omega)
   rw[Jhh this] at h2
   cases h2
 ·have e:k=s.size:=Nat.le_antisymm hk.1 (Nat.le_of_not_lt h)
  refine⟨fun h=>(by cases h),fun _=>⟨rfl, ?_⟩⟩
  rw[e,List.drop_eq_nil_of_le (by simp)] at hk
  unfold Jss
  rw[hk.2,Ji4]
  rfl
abbrev K7e:=K3e.add Kn1
abbrev K3d:=K7e
theorem Jwi (a:ByteArray):bs a.data.toList=a:=rfl
theorem Jd7 (c:UInt8):∀l:List UInt8,Lib.splitK [c] 0 (l.count c) l=Jj4 c l
 |[]=>rfl
 | x :: r => by
  have ih:=Jd7 c r
  by_cases h:x=c
  ·subst h
   rw[Jam,if_pos rfl,List.count_cons_self]
   have e:Lib.index (x::r) [x]=0:=by simp[Lib.index,List.isPrefixOf]
   rw[Lib.splitK,e,←ih]
   rfl
  ·rw[Jam,if_neg h,List.count_cons_of_ne h,←ih]
   have hp:[c].isPrefixOf (x::r)=false:=by
    have:¬c=x:=fun e=>h e.symm
    simp[List.isPrefixOf,this]
   cases hk:r.count c with
   |zero=>rfl
   | succ k =>
    have hi:Lib.index (x::r) [c]=if Lib.index r [c]== -1 then -1 else Lib.index r [c]+1:=by rw[Lib.index,hp];rfl
    by_cases h1:Lib.index r [c]= -1
    ·have e2:Lib.index (x::r) [c]= -1:=by rw[hi,h1];rfl
     simp only[Lib.splitK,e2,h1]
     rfl
    ·have hg:=Lib.index_ge r [c]
     have e2:Lib.index (x::r) [c]=Lib.index r [c]+1:=by rw[hi,if_neg (by simpa using h1)]
     obtain⟨i,hi⟩:=Int.eq_ofNat_of_zero_le (by omega:0≤Lib.index r [c])
     rw[hi] at e2
     have n1:¬((i:Int)== -1)=true:=by simp
     have n2:¬(((i:Int)+1)== -1)=true:=by simp;omega
     simp only[Lib.splitK,e2,hi]
     rw[if_neg n1,if_neg n2]
     have t1:((i:Int)+1).toNat=i+1:=by omega
     have t2:((i:Int)).toNat=i:=by omega
     simp only[t1,t2,Nat.add_zero,List.take_succ_cons,List.length_cons,List.length_nil]
     rfl
theorem Jd3 (s:ByteArray) (c:UInt8):Xz s ⟨#[c]⟩=(Jj4 c s.data.toList).map bs:=by
 have h:=Lib.splitB_data ⟨#[c]⟩ 0 (Lib.countB s ⟨#[c]⟩) s
 have hc:Lib.countB s ⟨#[c]⟩=s.data.toList.count c:=Lib.count_one c s.data.toList
 rw[hc] at h
 have h2:(Xz s ⟨#[c]⟩).map (·.data.toList)=Jj4 c s.data.toList:=by
  rw[←Jd7]
  unfold Xz
  rw[hc];exact h
 rw[←h2,List.map_map]
 exact(List.map_id' _).symm
theorem Jal (c:UInt8):∀(l w:List UInt8),w∈Jj4 c l→w.length≤l.length
 |[],w,h=>by
  have:w=[]:=by simpa[Jj4] using h
  rw[this];exact Nat.le_refl _
 | x :: r, w, h => by
  rw[Jam] at h
  split at h
  ·rcases List.mem_cons.1 h with h|h
   ·rw[h];exact Nat.zero_le _
   ·exact Nat.le_succ_of_le (Jal c r w h)
  ·split at h
   ·rename_i e;exact absurd e (J3s c r)
   ·rename_i hh t e
    rcases List.mem_cons.1 h with h|h
    ·rw[h]
     exact Nat.succ_le_succ (Jal c r hh (by rw[e];simp))
    ·exact Nat.le_succ_of_le (Jal c r w (by rw[e];simp[h]))
theorem Xk (l:List UInt8):(bs l).size=l.length:=by show l.toArray.size=_;simp
theorem Jzx (r:ByteArray) (i:Nat):r.extract 0 i=bs (r.data.toList.take i):=by
 rw[←Jwi (r.extract 0 i),Lib.extract_data];simp
theorem Jps (r:ByteArray) (i:Nat):r.extract i r.size=bs (r.data.toList.drop i):=by
 rw[←Jwi (r.extract i r.size),Lib.extract_data,List.take_of_length_le (by simp)]
theorem Jik (c:UInt8):∀l:List UInt8,(Jj4 c l).length≤l.length+1
 |[]=>Nat.le_refl _
 | x :: r => by
  have ih:=Jik c r
  rw[Jam]
  split
  ·simp;omega
  ·split
   ·simp
   ·rename_i e;rw[e] at ih;simp at ih⊢;omega
theorem De (c:UInt8):∀(l:List UInt8) (n:Int),Kh (l++[c]) n=if(Kh l n).2=true∧Xi c.toNat=true then(10*(Kh l n).1+(c.toNat-48),true) else(0,false)
 |[],n=>by
  show(if Xi c.toNat=true then _ else _)=_
  by_cases h:Xi c.toNat=true
  ·rw[if_pos h,if_pos ⟨rfl,h⟩];rfl
  ·rw[if_neg h,if_neg (fun q=>h q.2)]
 |x::l,n=>by
  have ih:=De c l (10*n+(x.toNat-48))
  show(if Xi x.toNat=true then Kh (l++[c]) (10*n+(x.toNat-48)) else(0,false))=_
  have e:Kh (x::l) n=if Xi x.toNat=true then Kh l (10*n+(x.toNat-48)) else(0,false):=rfl
  rw[e]
  by_cases h:Xi x.toNat=true
  ·rw[if_pos h,if_pos h,ih]
  ·rw[if_neg h,if_neg h,if_neg (fun q=>by cases q.1)]
theorem Ja3 (u:Nat):10≤u→Lib.decDigits u=Lib.decDigits (u/10)++[UInt8.ofNat (48+u %10)]:=fun h=>Jnw (by omega)
theorem Ja1 {x:Nat} (h:x<10):(UInt8.ofNat (48+x)).toNat=48+x:=UInt8.toNat_ofNat_of_lt' (by show 48+x<256;omega)
theorem F3 {x:Nat} (h:x<10):Xi (UInt8.ofNat (48+x)).toNat=true:=by
 rw[Ja1 h];unfold Xi;simp;omega
theorem Jnu (u:Nat):Kh (Lib.decDigits u) 0=((u:Int),true):=by
 induction u using Nat.strongRecOn with
 | ind u ih =>
  by_cases h:u<10
  ·rw[Lib.decDigits_one h]
   show(if Xi (UInt8.ofNat (48+u)).toNat=true then _ else _)=_
   rw[if_pos (F3 h),Ja1 h]
   show((_:Int),true)=_
   congr 1;omega
  ·have hd:u %10<10:=Nat.mod_lt _ (by decide)
   rw[Ja3 u (by omega),De,ih (u/10) (by omega),if_pos ⟨rfl,F3 hd⟩,Ja1 hd]
   congr 1;dsimp only;omega
theorem Jjt (u:Nat):∃c r,Lib.decDigits u=c::r∧Xi c.toNat=true∧(1≤u→c.toNat≠48):=by
 induction u using Nat.strongRecOn with
 | ind u ih =>
  by_cases h:u<10
  ·refine⟨_,_,Lib.decDigits_one h,F3 h,fun h1=> ?_⟩
   rw[Ja1 h];omega
  ·obtain⟨c,r,e,h1,h2⟩:=ih (u/10) (by omega)
   exact⟨c,r++[UInt8.ofNat (48+u %10)],by rw[Ja3 u (by omega),e];rfl,h1,fun _=>h2 (by omega)⟩
theorem Jfr (u:Nat):1≤(Lib.decDigits u).length:=by
 obtain⟨c,r,e,_⟩:=Jjt u
 rw[e];simp
theorem Jvo:∀(k u:Nat),((Lib.decDigits u).length≤k+1↔u<10^(k+1))
 | 0, u => by
  by_cases h:u<10
  ·rw[Lib.decDigits_one h];simp;omega
  ·have h2:=Jfr (u/10)
   rw[Ja3 u (by omega),List.length_append]
   simp only[List.length_cons,List.length_nil]
   constructor
   ·intro q;omega
   ·intro q;simp at q;omega
 | k + 1, u => by
  by_cases h:u<10
  ·rw[Lib.decDigits_one h]
   have:10≤10^(k+1+1):=by
    rw[Nat.pow_succ]
    have:=Nat.pos_of_ne_zero (n:=10^(k+1)) (by simp)
    omega
   simp;omega
  ·have ih:=Jvo k (u/10)
   rw[Ja3 u (by omega),List.length_append]
   simp only[List.length_cons,List.length_nil]
   rw[Nat.pow_succ]
   constructor
   ·intro q
    have:=ih.1 (by omega)
    omega
   ·intro q
    have:=ih.2 (by omega)
    omega
theorem Kat:∀(k:Nat) (l:List UInt8),l.length=k+1→(Kh l 0).2=true→(1<l.length→∀c,l.head? =some c→c.toNat≠48)→l=Lib.decDigits (Kh l 0).1.toNat
 | 0, l, hl, hd, _ => by
  match l,hl with
  | [c], _ =>
   have e:Kh [c] 0=if Xi c.toNat=true then((10*0+(c.toNat-48):Int),true) else(0,false):=rfl
   by_cases h:Xi c.toNat=true
   ·rw[e,if_pos h]
    have hr:=Jfo h
    have:((10*0+((c.toNat:Int)-48))).toNat=c.toNat-48:=by omega
    dsimp only
    rw[this,Lib.decDigits_one (by omega),show 48+(c.toNat-48)=c.toNat by omega,UInt8.ofNat_toNat]
   ·rw[e,if_neg h] at hd;cases hd
 | k + 1, l, hl, hd, h0 => by
  obtain⟨i,c,rfl⟩:∃i c,l=i++[c]:=by
   rcases List.eq_nil_or_concat l with h|⟨i,c,h⟩
   ·rw[h] at hl;simp at hl
   ·exact⟨i,c,by simpa using h⟩
  have hil:i.length=k+1:=by simpa using hl
  have hs:=De c i 0
  by_cases hc:(Kh i 0).2=true∧Xi c.toNat=true
  ·rw[if_pos hc] at hs
   have hh:∀d,i.head? =some d→d.toNat≠48:=fun d hd=>h0 (by simp;omega) d (by
    cases i with
    |nil=>cases hd
    |cons a b=>exact hd)
   have ih:=Kat k i hil hc.1 fun _=>hh
   have hr:=Jfo hc.2
   have hn:=(Jab (l:=i) (n:=0) (Int.le_refl _)).1
   obtain⟨m,hm⟩:=Int.eq_ofNat_of_zero_le hn
   rw[hm] at ih hs
   simp only[Int.toNat_natCast] at ih
   have hm1:1≤m:=by
    rcases Nat.eq_zero_or_pos m with h|h
    ·subst h
     rw[ih,Lib.decDigits_one (by decide)] at hh
     exact absurd rfl (hh 48 rfl)
    ·exact h
   rw[hs]
   have e:(10*(m:Int)+((c.toNat:Int)-48)).toNat=10*m+(c.toNat-48):=by omega
   dsimp only
   rw[e,Ja3 _ (by omega),show(10*m+(c.toNat-48))/10=m by omega,show 48+(10*m+(c.toNat-48)) %10=c.toNat by omega,UInt8.ofNat_toNat,←ih]
  ·rw[hs,if_neg hc] at hd;cases hd
theorem Jro {c:UInt8} {r:List UInt8} {n:Nat} (h:48≤c.toNat∧c.toNat≤57) (h1:¬1844674407370955162≤n) (h2:¬18446744073709551616≤n*10+(c.toNat-48)):Lib.parseUint10 n (c::r)=Lib.parseUint10 (n*10+(c.toNat-48)) r:=by
 simp only[Lib.parseUint10]
 rw[if_pos h,if_neg h1,if_neg h2]
theorem Jcv (c:UInt8) (r:List UInt8) (n:Int):Kh (c::r) n=if Xi c.toNat=true then Kh r (10*n+(c.toNat-48)) else(0,false):=rfl
theorem Juf (l:List UInt8):∀(n:Nat),(Kh l n).2=true→(Kh l n).1<1000000000000000000→Lib.parseUint10 n l= .ok (Kh l n).1.toNat∧(n:Int)≤(Kh l n).1:=by
 induction l with
 |nil=>exact fun n _ _=>⟨rfl,Int.le_refl _⟩
 | cons c r ih =>
  intro n h1 h2
  by_cases h:Xi c.toNat=true
  ·rw[Jcv,if_pos h] at h1 h2⊢
   have hr:=Jfo h
   have en:(10*(n:Int)+((c.toNat:Int)-48))=((n*10+(c.toNat-48):Nat):Int):=by omega
   rw[en] at h1 h2⊢
   obtain⟨a1,a2⟩:=ih _ h1 h2
   have h3:n<1000000000000000000:=by omega
   refine⟨?_,by omega⟩
   rw[Jro hr (by omega) (by omega)]
   exact a1
  ·rw[Jcv,if_neg h] at h1;cases h1
theorem Juv {u:Nat} (h:u<1000000000):Lib.parseMag (Lib.decDigits u)= .ok u:=by
 obtain⟨c,r,e,_⟩:=Jjt u
 unfold Lib.parseMag
 rw[if_neg (by rw[e];simp)]
 have hd:=Jnu u
 have:=(Juf (Lib.decDigits u) 0 (by show(Kh _ 0).2=true;rw[hd]) (by show(Kh _ 0).1<_;rw[hd];dsimp only;omega)).1
 rw[this]
 show Lib.NumEnd.ok (Kh _ 0).1.toNat=_
 rw[hd];rfl
theorem Jwr {v:Int} (h0: -1000000000<v) (h1:v<1000000000):Lib.atoiAll (Lib.itoa v)= .ok v:=by
 rcases(by omega:v<0∨0≤v) with hv|hv
 ·obtain⟨u,hu⟩:=Int.eq_ofNat_of_zero_le (by omega:0≤-v)
  have hn:v= -(u:Int):=by omega
  subst hn
  rw[Lib.itoa_neg u (by omega)]
  have hm:=Juv (u:=u) (by omega)
  have e45:(45:UInt8).toNat=45:=rfl
  simp only[Lib.atoiAll,e45]
  rw[if_pos (Or.inr trivial),hm]
  dsimp only
  rw[if_neg (by omega),if_neg (by omega),if_pos trivial]
 ·obtain⟨u,rfl⟩:=Int.eq_ofNat_of_zero_le hv
  have e:Lib.itoa (u:Int)=Lib.decDigits u:=Lib.itoa_nonneg u
  rw[e]
  have hm:=Juv (u:=u) (by omega)
  obtain⟨c,r,e,h3,h4⟩:=Jjt u
  have hr:=Jfo h3
  rw[e] at hm⊢
  simp only[Lib.atoiAll]
  rw[if_neg (by omega),hm]
  dsimp only
  rw[if_neg (by omega),if_neg (by omega),if_neg (by omega)]
theorem Jr4 {s:ByteArray} (h:(Kb s).2=true):∃u:Nat,u<1000000000∧s.data.toList=Lib.decDigits u∧(Kb s).1=u:=by
 have hr:=Jnt s
 obtain⟨u,hu⟩:=Int.eq_ofNat_of_zero_le hr.1
 by_cases hb:Ja2 s=true
 ·unfold Kb at h;rw[if_pos hb] at h;cases h
 ·have ed:Kb s=Kh s.data.toList 0:=by unfold Kb;rw[if_neg hb]
  have hb:Ja2 s=false:=by simpa using hb
  unfold Ja2 at hb
  simp only[Bool.or_eq_false_iff,decide_eq_false_iff_not,Bool.and_eq_false_iff] at hb
  obtain⟨⟨b1,b2⟩,b3⟩:=hb
  have hl:s.data.toList.length=s.size:=by simp
  have:=Kat (s.size-1) s.data.toList (by omega) (by rw[←ed];exact h) (fun hl2 c hc=>by
   rcases b3 with b3|b3
   ·omega
   ·intro q
    apply b3
    have:Ja4 s 0=c.toNat:=by
     unfold Ja4
     rw[List.getD_eq_getElem?_getD]
     have e0:s.data.toList[(0:Int).toNat]? =some c:=by rw[←hc];simp[List.head?_eq_getElem?]
     rw[e0];rfl
    rw[this,q];rfl)
  rw[←ed,hu] at this
  exact⟨u,by omega,this,hu⟩
theorem Jf0:∀{l:List UInt8} {n:Int},Hi l=true→(Kh l n).2=true
 |[],_,_=>rfl
 |c::r,n,h=>by
  rw[Hi,Bool.and_eq_true] at h
  rw[Kh,if_pos h.1]
  exact Jf0 h.2
theorem Jfc:∀{l:List UInt8} {n:Int},(Kh l n).2=true→Hi l=true
 |[],_,_=>rfl
 | c :: r, n, h => by
  rw[Kh] at h
  by_cases q:Xi c.toNat=true
  ·rw[if_pos q] at h
   rw[Hi,q,Jfc h];rfl
  ·rw[if_neg q] at h;cases h
theorem Jfp:∀{l:List UInt8} {n:Int},(Kh l n).2=false→Kh l n=(0,false)
 |[],_,h=>by cases h
 |c::r,n,h=>by
  rw[Kh] at h⊢
  by_cases q:Xi c.toNat=true
  ·rw[if_pos q] at h⊢;exact Jfp h
  ·rw[if_neg q]
theorem Ju4 (s:ByteArray):(bif bif !Jss s then true else decide (9<(s.size:Int)) then true else bif decide (1<(s.size:Int)) then(((s.data.toList.getD 0 0).toNat:Int)==48) else false)= !(Kb s).2:=by
 have hb:=Jwp s
 have hl:s.data.toList.length=s.size:=by simp
 unfold Jss
 cases ha:Hi s.data.toList with
 | false =>
  have e:(Kb s).2=false:=by
   unfold Kb
   split
   ·rfl
   ·cases h:(Kh s.data.toList 0).2 with
    |false=>rfl
    |true=>rw[Jfc h] at ha;cases ha
  rw[e];rfl
 | true =>
  have e:(Kb s).2= !Ja2 s:=by
   unfold Kb
   cases hd:Ja2 s with
   |true=>rfl
   |false=>exact Jf0 ha
  rw[e,←hb]
  have e1:decide (0<s.size)= !((s.size:Int)==0):=by
   by_cases q:s.size=0
   ·rw[q];rfl
   ·rw[decide_eq_true (by omega),beq_eq_false_iff_ne.2 (by omega)];rfl
  rw[e1]
  cases((s.size:Int)==0)<;>simp
theorem Jr7 {s:ByteArray} (h:(Kb s).2=true):Jsu s=(Kb s).1:=by
 obtain⟨u,h1,h2,h3⟩:=Jr4 h
 have e:Lib.itoa (u:Int)=Lib.decDigits u:=Lib.itoa_nonneg u
 have:=Jwr (v:=(u:Int)) (by omega) (by omega)
 unfold Jsu
 rw[h2,←e,this,h3]
def K05 (a:Bt):=bif !Jss a then true else decide (9<Nc (ByteArray.size a))
theorem Kn0:Ok Tryz.prog 187 J5c:=okW K3d Tryz.f187 na fun xx=>by
 obtain⟨(s:ByteArray),_⟩:=xx
 refine(by kernel_rfl:(ByteArray.size s≤1000000→(ByteArray.size s≤1000000∧(K05 s=false∧decide (1<Nc (ByteArray.size s))=true→Bd 0 (Nc (ByteArray.size s))))∧Br (bif K05 s then true else bif decide (1<Nc (ByteArray.size s)) then Kk9 s==48 else false) (0=(Kb s).1∧false=(Kb s).2) (ByteArray.size s≤1000000∧Jsu s=(Kb s).1∧true=(Kb s).2))=_).mp ?_
 delta Z13 Kk9 K05 Br Bd Nc
 intro hs
 rw[Ju4]
 refine⟨⟨hs,fun h=>⟨Int.le_refl _,by have:=of_decide_eq_true h.2;omega⟩⟩,fun h=> ?_,fun h=> ?_⟩
 ·have h:(Kb s).2=false:=by simpa using h
  have e:Kb s=(0,false):=by
   unfold Kb at h⊢
   split
   ·rfl
   ·rename_i q
    rw[if_neg q] at h
    exact Jfp h
  rw[e];exact⟨rfl,rfl⟩
 ·have h:(Kb s).2=true:=by simpa using h
  exact⟨hs,Jr7 h,h.symm⟩
abbrev K3c:=K3d.add Kn0
def Jsn:List UInt8→Int→Int
 |[],x=>x
 |b::r,x=>Jsn r ((341*x+(b.toNat:Int)).tmod 9999721)
def Jgf (s:ByteArray):Int:=Jsn s.data.toList 1
def K1m (l:List UInt8):List UInt8:=List.replicate (7-l.length) 48++l
def Joo (s:ByteArray):ByteArray:=bs (K1m (Lib.itoa (Jgf s)))
theorem Jtg:∀{l:List UInt8} {x:Int},0≤x∧x<9999721→0≤Jsn l x∧Jsn l x<9999721
 |[],_,h=>h
 |b::r,x,h=>by
  unfold Jsn
  have hb:(0:Int)≤b.toNat:=by omega
  exact Jtg ⟨Int.tmod_nonneg _ (by omega),Int.tmod_lt_of_pos _ (by decide)⟩
theorem Jmy (s:ByteArray):0≤Jgf s∧Jgf s<9999721:=Jtg ⟨by decide,by decide⟩
theorem Jih (s:ByteArray):1≤(Lib.itoa (Jgf s)).length∧(Lib.itoa (Jgf s)).length≤7:=by
 obtain⟨h0,h1⟩:=Jmy s
 obtain⟨u,hu⟩:=Int.eq_ofNat_of_zero_le h0
 rw[hu] at h1⊢
 rw[show Lib.itoa (u:Int)=Lib.decDigits u from Lib.itoa_nonneg u]
 exact⟨Jfr u,(Jvo 6 u).2 (by have:u<9999721:=(by omega);omega)⟩
theorem K4a (n:Nat):Lib.repeatL [48] n=List.replicate n 48:=by
 induction n with
 |zero=>rfl
 |succ n ih=>rw[List.replicate_succ,←ih];rfl
def K1v:Con:={args:=[aS],ress:=[tS],owns:=[],pre:=fun(s,_)=>[s.size≤1000000],spec:=fun(s,_)=>(Joo s,())}
abbrev Kca (s:ByteArray):Ann:={X:=Nat×Int,σ:=fun(k,x)=>⟨0,[(0, .one (.str s)),(3, .one (.int .i64 x)),(7, .one (.int .i64 s.size)),(8, .one (.int .i64 k))],[]⟩,inv:=fun(k,x)=>k≤s.size∧(0≤x∧x<9999721)∧Jsn (s.data.toList.drop k) x=Jgf s,mu:=fun(k,_)=>s.size-k}
theorem Jwf (s:ByteArray) (k:Nat):(s.data.toList.getD k 0).toNat<256:=(s.data.toList.getD k 0).toNat_lt
def Kfu (a:Nat×Int):=7-Nc (ByteArray.size (Vk a.2))
def K0r (a:Nat×Int):=J96 (ByteArray.mk (Array.mk [48])) (Kfu a)
def Kkp (a:Nat×Int) (b:Bt):=341*a.2+Nc (UInt8.toNat (List.getD (Z13 b) a.1 0))
def Kjb (a:Nat×Int) (b:Bt) (c:Nat×Int):=Int.tmod (Kkp a b) 9999721=c.2
def J58 (a:Nat×Int) (b:Bt):=a.1≤ByteArray.size b∧Bd a.2 9999721∧Jsn (List.drop a.1 (Z13 b)) a.2=Jgf b
def Khv (a:Nat×Int) (b:Bt) (c:Nat×Int):=J58 a b∧ByteArray.size b-a.1<ByteArray.size b-c.1
def Kgy (a:Nat×Int) (b:Bt):=Iw (341*a.2)∧Bd (Nc a.1) (Nc (ByteArray.size b))∧Iw (Nc (UInt8.toNat (List.getD (Z13 b) a.1 0)))∧Iw (Kkp a b)∧((9999721:Int)=0→False)
theorem Kn2:Ok Tryz.prog 184 K1v:=okW K3c Tryz.f184 (fun xx=>Xr (Kca xx.1)) fun xx=>by
 obtain⟨(s:ByteArray),_⟩:=xx
 refine(by kernel_rfl:(ByteArray.size s≤1000000→∃(x:Nat×Int),Sf s (1=x.2∧Si (Nc (ByteArray.size s)) (0=Nc x.1))∧J58 x s∧∀(x:Nat×Int),J58 x s→Br (decide (Nc x.1<Nc (ByteArray.size s))) (Kgy x s∧Z37 x∧∃(y:Nat×Int),Sf s (Kjb x s y∧Si (Nc (ByteArray.size s)) (Jsd x y))∧Khv y s x) (Iw x.2∧(Iw (Kfu x)∧1≤1000000∧(0≤Kfu x∧Kfu x≤1000000)∧Nc (ByteArray.size (K0r x)+ByteArray.size (Vk x.2))≤9223372036854775807)∧ByteArray.mk (Array.mk ((K0r x).data.toList++(Vk x.2).data.toList))=Joo s))=_).mp ?_
 delta Z13 Z37 Jsd Kfu K0r Kkp Kjb J58 Khv Kgy Br Iw Bd Sf Si Nc
 intro hs
 refine⟨((0:Nat),(1:Int)),by(repeat' first|exact rfl|exact⟨⟩|apply And.intro|omega|dsimp only;omega),⟨Nat.zero_le _,by(first|omega|dsimp only;omega),rfl⟩,fun(y:Nat×Int) hk=>⟨fun h=> ?_,fun h=> ?_⟩⟩
 ·obtain⟨k,x⟩:=y
  have hlt:k<s.size:=by simpa using h
  obtain⟨k1,k2,k3⟩:=hk
  dsimp only at k1 k2
  rw[Dg hlt,Jsn] at k3
  have hb:=Jwf s k
  refine⟨by(repeat' first|apply And.intro|(first|omega|dsimp only;omega)),by(repeat' first|apply And.intro|(first|omega|dsimp only;omega)),(k+1,_),⟨rfl,rfl,rfl, ?_⟩,⟨by(first|omega|dsimp only;omega), ?_,k3⟩,by(first|omega|dsimp only;omega)⟩
  ·dsimp only;push_cast;rfl
  ·exact⟨Int.tmod_nonneg _ (by(first|omega|dsimp only;omega)),Int.tmod_lt_of_pos _ (by decide)⟩
 ·obtain⟨k,x⟩:=y
  have hlt:¬k<s.size:=by simpa using h
  obtain⟨k1,k2,k3⟩:=hk
  have e:k=s.size:=by omega
  rw[e,List.drop_eq_nil_of_le (by simp),Jsn] at k3
  have k3:x=Jgf s:=k3
  have hl:=Jih s
  dsimp only
  rw[k3]
  have hz:(Vk (Jgf s)).size=(Lib.itoa (Jgf s)).length:=rfl
  rw[hz]
  have hr:J96 {data:={toList:=[48]}} (7-((Lib.itoa (Jgf s)).length:Int))=bs (List.replicate (7-(Lib.itoa (Jgf s)).length) 48):=by
   unfold J96
   rw[show(7-((Lib.itoa (Jgf s)).length:Int)).toNat=7-(Lib.itoa (Jgf s)).length by omega]
   exact congrArg bs (K4a _)
  have hb:=Jmy s
  rw[hr,Xk,List.length_replicate]
  exact⟨by(repeat' first|apply And.intro|(first|omega|dsimp only;omega)),⟨by(repeat' first|apply And.intro|(first|omega|dsimp only;omega)),by decide,by(repeat' first|apply And.intro|(first|omega|dsimp only;omega)),by omega⟩,rfl⟩
abbrev K3b:=K3c.add Kn2
def J0g (e:Ev):List ByteArray:=Vk e.1::e.2.1::(e.2.2.1++e.2.2.2.1.map Vk)
def Zt (e:Ev):ByteArray:=Vt (J0g e) ⟨⟨[32]⟩⟩
def Kbl:Con:={args:=[.val false (.list 3 sI), .fn [I] tS],ress:=[(false, .list 9 .str)],owns:=[true],pre:=fun(l,(q,_),_)=>[l.length≤1000000,∀x∈l,Uq (q (x,()))],spec:=fun(l,(_,f),_)=>(l.map fun x=>f (x,()),())}
def J87 (a:Int×Unit→Bt) (b:Nat) (c:Li):=List.map (fun(x:Int)=>a (x,PUnit.unit)) (List.take b c)
theorem Knr:Ok Tryz.prog 199 Kbl:=okW K3b Tryz.f199 (fun xx=>Xr (Jba 3 9 sI xx.1 tS false xx.2.1.1 xx.2.1.2)) fun xx=>by
 obtain⟨(l:List Int),⟨(q:Int×Unit→List Prop),(f:Int×Unit→ByteArray)⟩,_⟩:=xx
 refine(by kernel_rfl:(Z45 l→Kki l q→∃(x:Nat),Si (Ln l) (0=Nc x∧Sf l ((fun(x:Int×PUnit)=>q x)=q∧(fun(x:Int×PUnit)=>f x)=f∧List.length (J87 f x l)=0))∧x≤List.length l∧∀(x:Nat),x≤List.length l→Br (Z90 x l) (Z77 x l∧(Uq (q (Z17 l x,PUnit.unit))∧(List.length (J87 f x l)+1)*16≤140737488355328)∧Z16 x∧∃(y:Nat),Si (Ln l) (Z82 x y∧Sf l ((fun(x:Int×PUnit)=>q x)=q∧(fun(x:Int×PUnit)=>f x)=f∧J87 f x l++[f (Z17 l x,PUnit.unit)]=J87 f y l))∧y≤List.length l∧Jxh l y x) (J87 f x l=List.map (fun(x:Int)=>f (x,PUnit.unit)) l))=_).mp ?_
 delta Z16 Z17 Z45 Z77 Z82 Z90 Jxh J6p J87 Kki Br Iw Bd Tw Sf Si Ln Nc
 intro hb hq
 refine⟨(0:Nat),⟨rfl,rfl,rfl,rfl,rfl,by simp⟩,Nat.zero_le _,fun(k:Nat) hk=>⟨fun h=> ?_,fun h=> ?_⟩⟩
 ·have hlt:k<l.length:=by simpa using h
  refine⟨by omega,⟨hq (l.getD k 0) (Jc hlt),by simp only[List.length_map,List.length_take];omega⟩,by omega,(k+1:Nat),⟨rfl,by simp,rfl,rfl,rfl, ?_⟩,by omega,by omega⟩
  rw[←U5 (d:=0) hlt,List.map_append];rfl
 ·have hlt:¬k<l.length:=by simpa using h
  rw[List.take_of_length_le (by omega)]
abbrev K3a:=K3b.add Knr
structure Lw (e:Ev):Prop where
 num: -999999999≤e.1∧e.1≤999999999
 nn:e.2.2.1.length≤1000
 nv:e.2.2.2.1.length≤1000
 val:∀v∈e.2.2.2.1,-999999999≤v∧v≤999999999
 siz:((J0g e).map fun s=>s.size+1).sum≤1000000
theorem Jjh {sep:List UInt8} (hs:sep.length=1):∀{l:List (List UInt8)},(Lib.join l sep).length≤(l.map fun x=>x.length+1).sum
 |[]=>by simp[Lib.join,List.intercalate]
 |[x]=>by simp[Lib.join,List.intercalate,List.intersperse]
 |x::y::r=>by
  have ih:=Jjh hs (l:=y::r)
  have e:Lib.join (x::y::r) sep=x++sep++Lib.join (y::r) sep:=by simp[Lib.join,List.intercalate,List.intersperse]
  rw[e]
  simp only[List.length_append,List.map_cons,List.sum_cons] at ih⊢
  omega
theorem Jho {e:Ev} (h:Lw e):(Lib.join ((J0g e).map (·.data.toList)) [32]).length≤1000000:=by
 refine Nat.le_trans (Jjh (sep:=[32]) rfl) (Nat.le_trans (Nat.le_of_eq ?_) h.siz)
 rw[List.map_map]
 congr 1
def Kqy:Con:={args:=[aEv],ress:=[tS],owns:=[],pre:=fun(e,_)=>[Lw e],spec:=fun(e,_)=>(Zt e,())}
def Hp:=ByteArray.mk (Array.mk [32])
def Kld (a:Ls) (b:Li):=[]++a++List.map (fun(x:Int)=>Vk x) b
theorem Kn3:Ok Tryz.prog 183 Kqy:=okW K3a Tryz.f183 na fun xx=>by
 obtain⟨⟨(n:Int),(k:ByteArray),(ns:List ByteArray),(vs:List Int),(tx:ByteArray)⟩,_⟩:=xx
 refine(by kernel_rfl:(Lw (n,k,ns,vs,tx)→(Iw n∧(2+List.length ns)*16≤140737488355328)∧(Z45 vs∧(∀(x:Int),J6p vs x→Iw x)∧(List.length (Vk n::k::([]++ns))+List.length (List.map (fun(x:Int)=>Vk x) vs))*16≤140737488355328∧List.length (Vk n::k::Kld ns vs)≤1000000∧List.length (Lib.join ((Vk n).data.1::k.data.1::List.map (fun(x:ByteArray)=>Z13 x) (Kld ns vs)) [32])≤140737488355328)∧Vt (Vk n::k::Kld ns vs) Hp=Zt (n,k,ns,vs,tx))=_).mp ?_
 delta Z13 Z45 Hp J6p Kld Iw
 intro h
 have h1: -999999999≤n∧n≤999999999:=h.num
 have h2:ns.length≤1000:=h.nn
 have h3:vs.length≤1000:=h.nv
 have hs:=Jho h
 simp only[List.nil_append,List.length_cons,List.length_append,List.length_map]
 exact⟨by(repeat' first|apply And.intro|(first|omega|dsimp only;omega)),⟨by omega,fun x hx=>by have:=h.val x hx;omega,by omega,by omega,Nat.le_trans hs (by decide)⟩,rfl⟩
abbrev K29:=K3a.add Kn3
theorem Jkr (s:ByteArray):(Joo s).size=7:=by
 have h:=Jih s
 unfold Joo K1m
 rw[Xk,List.length_append,List.length_replicate]
 omega
theorem Jp1 {e:Ev} (h:Lw e):(Zt e).size≤1000000:=Jho h
def J3y (e:Ev):ByteArray:=bs ((Zt e).data.toList++[35]++(Joo (Zt e)).data.toList++[10])
def K50:Con:={args:=[aEv],ress:=[tS],owns:=[],pre:=fun(e,_)=>[Lw e],spec:=fun(e,_)=>(J3y e,())}
def Kvx (a:Int) (b:Bt) (c:Ls) (d:Li) (e:Bt):=Array.mk ((Array.mk ((Zt (a,b,c,d,e)).data.toList++[35])).toList++(Joo (Zt (a,b,c,d,e))).data.toList)
theorem Kpt:Ok Tryz.prog 106 K50:=okW K29 Tryz.f106 na fun xx=>by
 obtain⟨⟨(n:Int),(k:ByteArray),(ns:List ByteArray),(vs:List Int),(tx:ByteArray)⟩,_⟩:=xx
 refine(by kernel_rfl:(Lw (n,k,ns,vs,tx)→Lw (n,k,ns,vs,tx)∧(Nc (ByteArray.size (Zt (n,k,ns,vs,tx))+1)≤9223372036854775807∧ByteArray.size (Zt (n,k,ns,vs,tx))≤1000000∧Nc (ByteArray.size (ByteArray.mk (Array.mk ((Zt (n,k,ns,vs,tx)).data.toList++[35])))+ByteArray.size (Joo (Zt (n,k,ns,vs,tx))))≤9223372036854775807∧Nc (ByteArray.size (ByteArray.mk (Kvx n k ns vs tx))+1)≤9223372036854775807)∧ByteArray.mk (Array.mk ((Kvx n k ns vs tx).toList++[10]))=J3y (n,k,ns,vs,tx))=_).mp ?_
 delta Kvx Nc
 intro h
 have h1:=Jp1 h
 have h2:=Jkr (Zt (n,k,ns,vs,tx))
 have h3:(bs ((Zt (n,k,ns,vs,tx)).data.toList++[35])).size=(Zt (n,k,ns,vs,tx)).size+1:=by rw[Xk,List.length_append];simp
 have h4:(bs ((Zt (n,k,ns,vs,tx)).data.toList++[35]++(Joo (Zt (n,k,ns,vs,tx))).data.toList)).size=(Zt (n,k,ns,vs,tx)).size+8:=by rw[Xk,List.length_append,List.length_append];simp[h2]
 refine⟨h,⟨by omega,h1, ?_, ?_⟩,rfl⟩
 ·show((bs ((Zt (n,k,ns,vs,tx)).data.toList++[35])).size+(Joo (Zt (n,k,ns,vs,tx))).size:Nat)≤(9223372036854775807:Int)
  omega
 ·show((bs ((Zt (n,k,ns,vs,tx)).data.toList++[35]++(Joo (Zt (n,k,ns,vs,tx))).data.toList)).size+1:Nat)≤(9223372036854775807:Int)
  omega
abbrev K7d:=K29.add Kpt
abbrev K28:=K7d.add Kmo
abbrev Tk:=List ByteArray×Bool
def U3:Tk→ByteArray×Tk
 |([],_)=>(Ja,[],true)
 |(w::l,b)=>bif w.toList==Ja.toList then(Ja,[],true) else(w,l,b)
def Lp (t:Tk):Bool:=bif (t.1.length:Int)==0 then true else(t.1.getD 0 Ja).toList==Ja.toList
theorem Jai:∀(t:Tk),U3 t=bif Lp t then(Ja,[],true) else(t.1.getD 0 Ja,t.1.drop 1,t.2)
 |([],_)=>rfl
 | (w :: l, b) => by
  have e:Lp (w::l,b)=(w.toList==Ja.toList):=by
   unfold Lp
   rw[beq_eq_false_iff_ne.2 (show(((w::l,b):Tk).1.length:Int)≠0 by simp;omega)];rfl
  rw[e]
  show(bif w.toList==Ja.toList then(Ja,[],true) else(w,l,b))=_
  cases w.toList==Ja.toList<;>rfl
theorem Jdq {t:Tk} (h:Lp t=false):0<t.1.length:=by
 unfold Lp at h
 by_cases q:t.1.length=0
 ·rw[q] at h;cases h
 ·omega
def J3n (t:Tk):Int×Tk:=((Kb (U3 t).1).1,(U3 t).2.1,bif (U3 t).2.2 then true else !(Kb (U3 t).1).2)
def L6:Nat→Tk→List ByteArray→List ByteArray×Tk
 |0,t,o=>(o,t)
 |n+1,t,o=>L6 n (U3 t).2 (o++[(U3 t).1])
def Jaj:Nat→Tk→List Int→List Int×Tk
 |0,t,o=>(o,t)
 |n+1,t,o=>Jaj n (J3n t).2 (o++[(J3n t).1])
def evz:Ev:=(0,Ja,[],[],Ja)
theorem Jjf (k:ByteArray):(Jj k).1.length≤3∧0≤(Jj k).2.1∧(Jj k).2.1≤4:=by
 cases h:Yw k with
 | false =>
  have e:Jj k=([],0,none,none,none):=by
   unfold Yw at h
   unfold Jj
   cases hm:Um .str k Lo with
   |none=>rfl
   |some v=>rw[hm] at h;cases h
  rw[e];decide
 |true=>
  rcases U4 h with h|h|h|h|h|h|h|h|h|h|h<;>subst h
  all_goals first|(rw[F2];decide)|(rw[K2];decide)|(rw[U8];decide)|(rw[Uj];decide)|(rw[Uk];decide)|(rw[Vg];decide)|(rw[Km];decide)|(rw[J8];decide)|(rw[Ku];decide)|(rw[Kt];decide)|(rw[Us];decide)
def X0 (ws:List ByteArray):List ByteArray×Tk:=L6 (Jj (U3 (ws,false)).1).1.length (U3 (ws,false)).2 []
def Jcm (ws:List ByteArray):List Int×Tk:=Jaj (Jj (U3 (ws,false)).1).2.1.toNat (X0 ws).2 []
def Y5 (ws:List ByteArray):Ev×Bool:=bif Yw (U3 (ws,false)).1 then((0,(U3 (ws,false)).1,(X0 ws).1,(Jcm ws).1,Ja),bif !(Jcm ws).2.2 then((Jcm ws).2.1.length:Int)==0 else false) else(evz,false)
def Kqg:Con:={args:=[.val false (.list 9 .str)],ress:=[(true,sEv),Bo],owns:=[],pre:=fun(ws,_)=>[ws.length≤1000000,∀w∈ws,w.size≤1000000],spec:=fun(ws,_)=>((Y5 ws).1,(Y5 ws).2,())}
abbrev J5r (ws:List ByteArray):Nat→Option Ann:=fun id=>if id=0 then some {X:=Nat×Tk×List ByteArray,σ:=fun(i,(rem,b),o)=>⟨9,[(2, .one (.ptr 1 0)),(4, .one (.ptr 2 0)),(5, .one (.fv 3)),(6, .one (.fv 4)),(7, .one (.ptr 5 0)),(8, .one (.ptr 7 0)),(34, .one (.int .i64 (Jj (U3 (ws,false)).1).1.length)),(35, .one (.int .i64 i))],[(1, .box 67 [.int .i64 0, .str Ja, .val (.slice none 0 0), .val (.slice none 0 0), .str Ja]),(2, .box 279 [.sl 0, .bool b]),(3, .clo 210 [.one (.ptr 2 0)] []),(4, .clo 211 [.one (.ptr 2 0)] []),(5, .box 67 [.int .i64 0, .str (U3 (ws,false)).1, .sl 6, .val (.slice none 0 0), .str Ja]),(7, .box 173 [.sl 8, .int .i64 (Jj (U3 (ws,false)).1).2.1, .fno (Jj (U3 (ws,false)).1).2.2.1, .fno (Jj (U3 (ws,false)).1).2.2.2.1, .fno (Jj (U3 (ws,false)).1).2.2.2.2]),(6, .own 9 .str o),(8, .imm 251 Jy6 (Jj (U3 (ws,false)).1).1),(0, .imm 9 .str rem)]⟩,inv:=fun(i,t,o)=>i≤(Jj (U3 (ws,false)).1).1.length∧t.1.length≤1000000∧(∀w∈t.1,w.size≤1000000)∧o.length=i∧L6 ((Jj (U3 (ws,false)).1).1.length-i) t o=X0 ws,mu:=fun(i,_)=>(Jj (U3 (ws,false)).1).1.length-i}
 else if id=2 then some {X:=Nat×Tk×List Int,σ:=fun(i,(rem,b),o)=>⟨10,[(2, .one (.ptr 1 0)),(4, .one (.ptr 2 0)),(6, .one (.fv 4)),(7, .one (.ptr 5 0)),(47, .one (.int .i64 (Jj (U3 (ws,false)).1).2.1)),(48, .one (.int .i64 i))],[(1, .box 67 [.int .i64 0, .str Ja, .val (.slice none 0 0), .val (.slice none 0 0), .str Ja]),(2, .box 279 [.sl 0, .bool b]),(4, .clo 211 [.one (.ptr 2 0)] []),(5, .box 67 [.int .i64 0, .str (U3 (ws,false)).1, .sl 6, .sl 9, .str Ja]),(6, .own 9 .str (X0 ws).1),(9, .own 3 sI o),(0, .imm 9 .str rem)]⟩,inv:=fun(i,t,o)=>i≤(Jj (U3 (ws,false)).1).2.1.toNat∧t.1.length≤1000000∧(∀w∈t.1,w.size≤1000000)∧o.length=i∧Jaj ((Jj (U3 (ws,false)).1).2.1.toNat-i) t o=Jcm ws,mu:=fun(i,_)=>(Jj (U3 (ws,false)).1).2.1.toNat-i}
 else none
def Z66 (a:Ls):=(Jj (U3 (a,false)).1).2
def Z67 (a:Ls):=(Jj (U3 (a,false)).1).1
def Z86 (a:Ls):=(Z66 a).1
def Kfz (a:Ls):=(Z66 a).2.1
def Kfx (a:Ls):=(Z66 a).2.2.1
def Kfw (a:Ls):=(Z66 a).2.2.2
def Kft (a:Nat×Tk×Li):=List.getD a.2.1.1 0 B0
def J6s (a:Ls):=Int.toNat (Z86 a)
def J9f (a:Ls):=Ln (Z67 a)
def J6m (a:Ls):=List.length (Z67 a)
def K1a (a:Nat×Tk×Ls):=(List.length a.2.2+1)*16≤140737488355328
def K07 (a:Ls):=(Jj (U3 (a,false)).1).1=Z67 a
def Kzn (a:Ls):=Sf true (D4=(Y5 a).1∧false=(Y5 a).2)
def Kwt (a:Ls):=Um Sch.str (Z83 a) Lo
def Kgt (a:Ls):=Option.getD (Kwt a) J8w
def Kt4 (a:Nat×(Ls×Bool)×Li) (b:Ls):=a.1≤J6s b∧List.length a.2.1.1≤1000000∧(∀(w:ByteArray),w∈a.2.1.1→ByteArray.size w≤1000000)∧List.length a.2.2=a.1∧Jaj (J6s b-a.1) a.2.1 a.2.2=Jcm b
def Kt2 (a:Ls):=(Kgt a).2
def Kt1 (a:Ls):=(Kt2 a).2
def Kt0 (a:Ls):=(Kt1 a).2
def Ktq (a:Nat×(Ls×Bool)×Ls) (b:Ls):=a.1≤J6m b∧List.length a.2.1.1≤1000000∧(∀(w:ByteArray),w∈a.2.1.1→ByteArray.size w≤1000000)∧List.length a.2.2=a.1∧L6 (J6m b-a.1) a.2.1 a.2.2=X0 b
def Kte (a:Nat×(Ls×Bool)×Li) (b:Ls) (c:Nat×Tk×Li):=Kt4 a b∧J6s b-a.1<J6s b-c.1
def Ks7 (a:Nat×(Ls×Bool)×Ls) (b:Ls) (c:Nat×Tk×Ls):=Ktq a b∧J6m b-a.1<J6m b-c.1
def J6u (a:Nat×(Ls×Bool)×Ls) (b:Ls):=Ktq a b∧∀(x:Nat×Tk×List ByteArray),x.1≤J6m b∧List.length x.2.1.1≤1000000∧(∀(w:ByteArray),w∈x.2.1.1→ByteArray.size w≤1000000)∧List.length x.2.2=x.1∧L6 (J6m b-x.1) x.2.1 x.2.2=X0 b→Br (decide (Nc x.1<J9f b)) (Tw ((Ln x.2.1.1==0)=false→Bd 0 (Ln x.2.1.1))∧Br (bif Ln x.2.1.1==0 then true else Lb (List.getD x.2.1.1 0 B0) B0) (K1a x∧Iw (Nc x.1+1)∧∃(y:Nat×(List ByteArray×Bool)×List ByteArray),Si (J9f b) (Nc x.1+1=Nc y.1∧Si 0 (Sf Ja (Sf Vn (Sf Vn (Sf Ja (true=y.2.1.2∧Si 0 (Sf (U3 (b,false)).1 (Sf Vn (Sf Ja (Si (Z86 b) (Sf (Kfz b) (Sf (Kfx b) (Sf (Kfw b) (x.2.2++[B0]=y.2.2∧K07 b∧List.length y.2.1.1=0))))))))))))))∧Ks7 y b x) (Tw (Bd 0 (Ln x.2.1.1))∧((0:Int)≤1∧1≤Ln x.2.1.1∧Ln x.2.1.1≤Ln x.2.1.1)∧K1a x∧Iw (Nc x.1+1)∧∃(y:Nat×(List ByteArray×Bool)×List ByteArray),Si (J9f b) (Nc x.1+1=Nc y.1∧Si 0 (Sf Ja (Sf Vn (Sf Vn (Sf Ja (x.2.1.2=y.2.1.2∧Si 0 (Sf (U3 (b,false)).1 (Sf Vn (Sf Ja (Si (Z86 b) (Sf (Kfz b) (Sf (Kfx b) (Sf (Kfw b) (x.2.2++[List.getD x.2.1.1 0 B0]=y.2.2∧K07 b∧List.drop 1 (List.take (List.length x.2.1.1) x.2.1.1)=y.2.1.1))))))))))))))∧Ks7 y b x)) (∃(x_1:Nat×(List ByteArray×Bool)×List Int),Si (Z86 b) (0=Nc x_1.1∧Si 0 (Sf Ja (Sf Vn (Sf Vn (Sf Ja (x.2.1.2=x_1.2.1.2∧Si 0 (Sf (U3 (b,false)).1 (Sf Ja (x.2.2=(X0 b).1∧List.length x_1.2.2=0∧x.2.1.1=x_1.2.1.1)))))))))∧Kt4 x_1 b∧∀(x:Nat×Tk×List Int),x.1≤J6s b∧List.length x.2.1.1≤1000000∧(∀(w:ByteArray),w∈x.2.1.1→ByteArray.size w≤1000000)∧List.length x.2.2=x.1∧Jaj (J6s b-x.1) x.2.1 x.2.2=Jcm b→Br (decide (Nc x.1<Z86 b)) (Tw ((Ln x.2.1.1==0)=false→Bd 0 (Ln x.2.1.1))∧Br (bif Ln x.2.1.1==0 then true else Lb (Kft x) B0) (0≤1000000∧(List.length x.2.2+1)*8≤140737488355328∧Iw (Nc x.1+1)∧∃(y:Nat×(List ByteArray×Bool)×List Int),Si (Z86 b) (Nc x.1+1=Nc y.1∧Si 0 (Sf Ja (Sf Vn (Sf Vn (Sf Ja (true=y.2.1.2∧Si 0 (Sf (U3 (b,false)).1 (Sf Ja ((X0 b).1=(X0 b).1∧x.2.2++[(Kb B0).1]=y.2.2∧List.length y.2.1.1=0)))))))))∧Kte y b x) (Tw (Bd 0 (Ln x.2.1.1))∧((0:Int)≤1∧1≤Ln x.2.1.1∧Ln x.2.1.1≤Ln x.2.1.1)∧ByteArray.size (Kft x)≤1000000∧(List.length x.2.2+1)*8≤140737488355328∧Iw (Nc x.1+1)∧∃(y:Nat×(List ByteArray×Bool)×List Int),Si (Z86 b) (Nc x.1+1=Nc y.1∧Si 0 (Sf Ja (Sf Vn (Sf Vn (Sf Ja ((bif x.2.1.2 then true else !(Kb (Kft x)).2)=y.2.1.2∧Si 0 (Sf (U3 (b,false)).1 (Sf Ja ((X0 b).1=(X0 b).1∧x.2.2++[(Kb (Kft x)).1]=y.2.2∧List.drop 1 (List.take (List.length x.2.1.1) x.2.1.1)=y.2.1.1)))))))))∧Kte y b x)) (Sf true ((0,(U3 (b,false)).1,(X0 b).1,x.2.2,Ja)=(Y5 b).1∧(bif !x.2.1.2 then Ln x.2.1.1==0 else false)=(Y5 b).2)))
theorem Kpn:Ok Tryz.prog 120 Kqg:=Jzd K28 Tryz.f120 (U1 (l:=([(210,Tryz.f210),(211,Tryz.f211)]:List (Nat×Func))) (List.forall_mem_cons.2 ⟨by kernel_rfl,List.forall_mem_cons.2 ⟨by kernel_rfl,by simp⟩⟩)) (fun xx=>J5r xx.1) (fun xx=>fun _=>na ()) fun xx=>by
 obtain⟨(ws:List ByteArray),_⟩:=xx
 refine(by kernel_rfl:(Jaf ws→Jhq ws→Tw ((Ln ws==0)=false→Z84 ws)∧Br (bif Ln ws==0 then true else Lb (Z83 ws) B0) (Br true (Kzn ws) (∃(x:Nat×(List ByteArray×Bool)×List ByteArray),(0=J9f ws∧0=Nc x.1∧Si 0 (B0=Ja∧Sf Vn (Sf Vn (B0=Ja∧true=x.2.1.2∧Si 0 (B0=(U3 (ws,false)).1∧Sf Vn (B0=Ja∧0=Z86 ws∧none=Kfz ws∧none=Kfx ws∧none=Kfw ws∧List.length x.2.2=0∧[]=Z67 ws∧List.length x.2.1.1=0))))))∧J6u x ws)) (Tw (Z84 ws)∧((0:Int)≤1∧1≤Ln ws∧Ln ws≤Ln ws)∧Br (!Option.isSome (Kwt ws)) (Kzn ws) (∃(x:Nat×(List ByteArray×Bool)×List ByteArray),(Ln (Kgt ws).1=J9f ws∧0=Nc x.1∧Si 0 (B0=Ja∧Sf Vn (Sf Vn (B0=Ja∧false=x.2.1.2∧Si 0 (Z83 ws=(U3 (ws,false)).1∧Sf Vn (B0=Ja∧(Kt2 ws).1=Z86 ws∧(Kt1 ws).1=Kfz ws∧(Kt0 ws).1=Kfx ws∧(Kt0 ws).2=Kfw ws∧List.length x.2.2=0∧(Kgt ws).1=Z67 ws∧List.drop 1 (List.take (List.length ws) ws)=x.2.1.1))))))∧J6u x ws)))=_).mp ?_
 delta Z66 Z67 Z83 Z84 Z86 Kfz Jaf Kfx Kfw Kft Vn J6s D4 J9f J6m K1a Jgu K07 J8w Kzn Jhq Kwt Kgt Kt4 Kt2 Kt1 Kt0 Ktq Kte Ks7 J6u Br Iw Bd Tw Sf Si Ln Nc B0 Lb
 intro h1 h2
 have hk0:Yw Ja=false:=by kernel_rfl
 have hB:=Jjf (ws.getD 0 Ja)
 have hsz:∀k,k<ws.length→(ws.getD k Ja).size≤1000000:=fun k hk=>h2 _ (Jc hk)
 refine⟨⟨fun h=> ?_,fun h=> ?_⟩,fun hc=>⟨fun _=>⟨rfl, ?_⟩,fun h=>(by cases h)⟩,fun hc=> ?_⟩
 ·have:=beq_eq_false_iff_ne.1 h;omega
 ·have:=beq_eq_false_iff_ne.1 h;omega
 ·have e:U3 (ws,false)=(Ja,[],true):=by rw[Jai,show Lp (ws,false)=true from hc];rfl
  have e2:Y5 ws=(evz,false):=by unfold Y5;rw[e,hk0];rfl
  rw[e2];exact⟨rfl,rfl⟩
 ·have hc':Lp (ws,false)=false:=hc
  have e:U3 (ws,false)=(ws.getD 0 Ja,ws.drop 1,false):=by rw[Jai,hc'];rfl
  have hl:0<ws.length:=Jdq hc'
  have eD:(Um Sch.str (ws.getD 0 ({data:={toList:=[]}}:ByteArray)) Lo).getD ([],0,none,none,none)=Jj (ws.getD 0 Ja):=rfl
  have eK:(Um Sch.str (ws.getD 0 ({data:={toList:=[]}}:ByteArray)) Lo).isSome=Yw (ws.getD 0 Ja):=rfl
  simp only[e,eD,eK]
  refine⟨by(repeat' first|apply And.intro|(first|omega|dsimp only;omega)),by(repeat' first|apply And.intro|(first|omega|dsimp only;omega)),fun hk=>⟨trivial, ?_⟩,fun hk=>⟨((0:Nat),(ws.drop 1,false),[]), ?_,⟨Nat.zero_le _,by simp only[List.length_drop];omega,fun w hw=>h2 w (List.mem_of_mem_drop hw),rfl,by unfold X0;rw[e];rfl⟩,fun(x:Nat×Tk×List ByteArray) hx=>⟨fun hlt=> ?_,fun hlt=> ?_⟩⟩⟩
  ·have hk:Yw (ws.getD 0 Ja)=false:=by simpa using hk
   have e2:Y5 ws=(evz,false):=by unfold Y5;rw[e,hk];rfl
   rw[e2];exact⟨rfl,rfl⟩
  ·rw[List.take_length]
   repeat' first|exact rfl|exact⟨⟩|apply And.intro|omega|dsimp only;omega
  ·obtain⟨i,⟨rem,b⟩,o⟩:=x
   obtain⟨i1,i2,i3,i4,i5⟩:=hx
   have hlt:i<(Jj (ws.getD 0 Ja)).1.length:=by simpa using hlt
   dsimp only at i1 i2 i3 i4 i5
   have hn:(Jj (ws.getD 0 Ja)).1.length-i=((Jj (ws.getD 0 Ja)).1.length-(i+1))+1:=by omega
   rw[hn,L6,Jai] at i5
   refine⟨⟨fun h=> ?_,fun h=> ?_⟩,fun h=> ?_,fun h=> ?_⟩
   ·have:=beq_eq_false_iff_ne.1 h;(first|omega|dsimp only;omega)
   ·have:=beq_eq_false_iff_ne.1 h;(first|omega|dsimp only;omega)
   ·have h:Lp (rem,b)=true:=h
    rw[h,cond_true] at i5
    refine⟨by(first|omega|dsimp only;omega),by(repeat' first|apply And.intro|(first|omega|dsimp only;omega)),(i+1,([],true),o++[Ja]), ?_,⟨by(first|omega|dsimp only;omega),by simp,fun w hw=>(by cases hw),by simp[i4],i5⟩,by(first|omega|dsimp only;omega)⟩
    repeat' first|exact rfl|exact⟨⟩|apply And.intro|omega|dsimp only;omega
   ·have h:Lp (rem,b)=false:=h
    have hr:0<rem.length:=Jdq h
    rw[h,cond_false] at i5
    refine⟨by(repeat' first|apply And.intro|(first|omega|dsimp only;omega)),by(repeat' first|apply And.intro|(first|omega|dsimp only;omega)),by(first|omega|dsimp only;omega),by(repeat' first|apply And.intro|(first|omega|dsimp only;omega)),(i+1,(rem.drop 1,b),o++[rem.getD 0 Ja]), ?_,⟨by(first|omega|dsimp only;omega),by simp only[List.length_drop];omega,fun w hw=>i3 w (List.mem_of_mem_drop hw),by simp[i4],i5⟩,by(first|omega|dsimp only;omega)⟩
    dsimp only
    rw[List.take_length]
    repeat' first|exact rfl|exact⟨⟩|apply And.intro|omega|dsimp only;omega
  ·obtain⟨i,⟨rem,b⟩,o⟩:=x
   obtain⟨i1,i2,i3,i4,i5⟩:=hx
   have hlt:¬i<(Jj (ws.getD 0 Ja)).1.length:=by simpa using hlt
   dsimp only at i1 i2 i3 i4 i5
   have hn:(Jj (ws.getD 0 Ja)).1.length-i=0:=by omega
   rw[hn,L6] at i5
   have eN:(X0 ws).1=o:=by rw[←i5]
   have eT:(X0 ws).2=(rem,b):=by rw[←i5]
   simp only[eN]
   refine⟨((0:Nat),(rem,b),[]), ?_,⟨Nat.zero_le _,i2,i3,rfl,by unfold Jcm;rw[e,eT];rfl⟩,fun(x:Nat×Tk×List Int) hx=>⟨fun hlt=> ?_,fun hlt=> ?_⟩⟩
   ·repeat' first|exact rfl|exact⟨⟩|apply And.intro|omega|dsimp only;omega
   ·obtain⟨j,⟨rem,b⟩,o2⟩:=x
    obtain⟨j1,j2,j3,j4,j5⟩:=hx
    have hlt:(j:Int)<(Jj (ws.getD 0 Ja)).2.1:=of_decide_eq_true hlt
    dsimp only at j1 j2 j3 j4 j5
    have hn:(Jj (ws.getD 0 Ja)).2.1.toNat-j=((Jj (ws.getD 0 Ja)).2.1.toNat-(j+1))+1:=by omega
    rw[hn,Jaj,J3n,Jai] at j5
    refine⟨⟨fun h=> ?_,fun h=> ?_⟩,fun h=> ?_,fun h=> ?_⟩
    ·have:=beq_eq_false_iff_ne.1 h;(first|omega|dsimp only;omega)
    ·have:=beq_eq_false_iff_ne.1 h;(first|omega|dsimp only;omega)
    ·have h:Lp (rem,b)=true:=h
     rw[h,cond_true] at j5
     refine⟨by decide,by(first|omega|dsimp only;omega),by(repeat' first|apply And.intro|(first|omega|dsimp only;omega)),(j+1,([],true),o2++[(Kb Ja).1]), ?_,⟨by(first|omega|dsimp only;omega),by simp,fun w hw=>(by cases hw),by simp[j4],j5⟩,by(first|omega|dsimp only;omega)⟩
     repeat' first|exact rfl|exact⟨⟩|apply And.intro|omega|dsimp only;omega
    ·have h:Lp (rem,b)=false:=h
     have hr:0<rem.length:=Jdq h
     rw[h,cond_false] at j5
     refine⟨by(repeat' first|apply And.intro|(first|omega|dsimp only;omega)),by(repeat' first|apply And.intro|(first|omega|dsimp only;omega)),j3 _ (Jc hr),by(first|omega|dsimp only;omega),by(repeat' first|apply And.intro|(first|omega|dsimp only;omega)),(j+1,(rem.drop 1,bif b then true else !(Kb (rem.getD 0 Ja)).2),o2++[(Kb (rem.getD 0 Ja)).1]), ?_,⟨by(first|omega|dsimp only;omega),by simp only[List.length_drop];omega,fun w hw=>j3 w (List.mem_of_mem_drop hw),by simp[j4],j5⟩,by(first|omega|dsimp only;omega)⟩
     dsimp only
     rw[List.take_length]
     repeat' first|exact rfl|exact⟨⟩|apply And.intro|omega|dsimp only;omega
   ·obtain⟨j,⟨rem2,b2⟩,o2⟩:=x
    obtain⟨j1,j2,j3,j4,j5⟩:=hx
    have hlt:¬(j:Int)<(Jj (ws.getD 0 Ja)).2.1:=of_decide_eq_false hlt
    dsimp only at j1 j2 j3 j4 j5
    have hn:(Jj (ws.getD 0 Ja)).2.1.toNat-j=0:=by omega
    rw[hn,Jaj] at j5
    have hk:Yw (ws.getD 0 Ja)=true:=by simpa using hk
    have e2:Y5 ws=((0,ws.getD 0 Ja,o,o2,Ja),bif !b2 then((rem2.length:Int)==0) else false):=by
     unfold Y5
     rw[e,hk,cond_true,eN,←j5]
    rw[e2];exact⟨trivial,rfl,rfl⟩
abbrev K27:=K28.add Kpn
def Jbe (c:UInt8):List UInt8→List UInt8
 |[]=>[]
 |b::r=>if b=c then[] else b::Jbe c r
def Jgq (c:UInt8):List UInt8→List UInt8
 |[]=>[]
 |b::r=>if b=c then r else Jgq c r
def Jst (c:UInt8):List UInt8→Bool
 |[]=>false
 |b::r=>if b=c then true else Jst c r
theorem Jux (c:UInt8):∀l:List UInt8,Lib.cut l [c]=(Jbe c l,Jgq c l,Jst c l)
 |[]=>rfl
 | b :: r => by
  have ih:=Jux c r
  have hg:=Lib.index_ge r [c]
  by_cases h:b=c
  ·subst h
   have e:Lib.index (b::r) [b]=0:=by simp[Lib.index,List.isPrefixOf]
   unfold Lib.cut Jbe Jgq Jst
   rw[e,if_pos rfl,if_pos rfl,if_pos rfl]
   rfl
  ·have hp:[c].isPrefixOf (b::r)=false:=by
    have:¬c=b:=fun e=>h e.symm
    simp[List.isPrefixOf,this]
   have hi:Lib.index (b::r) [c]=if Lib.index r [c]== -1 then -1 else Lib.index r [c]+1:=by rw[Lib.index,hp];rfl
   unfold Jbe Jgq Jst
   rw[if_neg h,if_neg h,if_neg h]
   unfold Lib.cut at ih⊢
   by_cases h1:Lib.index r [c]= -1
   ·have e2:Lib.index (b::r) [c]= -1:=by rw[hi,h1];rfl
    rw[h1,if_neg (by decide)] at ih
    rw[e2,if_neg (by decide)]
    simp only[Prod.mk.injEq] at ih⊢
    exact⟨by rw[←ih.1],ih.2⟩
   ·obtain⟨i,hj⟩:=Int.eq_ofNat_of_zero_le (by omega:0≤Lib.index r [c])
    have e2:Lib.index (b::r) [c]=((i+1:Nat):Int):=by rw[hi,if_neg (by simpa using h1),hj];rfl
    rw[hj,if_pos (by omega)] at ih
    rw[e2,if_pos (by omega)]
    simp only[Prod.mk.injEq,Int.toNat_natCast,List.length_singleton] at ih⊢
    exact⟨by rw[List.take_succ_cons,ih.1],by rw[←ih.2.1];rfl,ih.2.2⟩
theorem Jju (c:UInt8):∀l:List UInt8,(Jbe c l).length≤l.length
 |[]=>Nat.le_refl _
 |b::r=>by
  have:=Jju c r
  unfold Jbe
  split<;>simp only[List.length_cons,List.length_nil]<;>omega
theorem Jds (c:UInt8):∀l:List UInt8,(Jgq c l).length≤l.length
 |[]=>Nat.le_refl _
 |b::r=>by
  have:=Jds c r
  unfold Jgq
  split<;>simp only[List.length_cons]<;>omega
theorem Jvr (s:ByteArray) (c:UInt8):Jx3 s ⟨⟨[c]⟩⟩=(bs (Jbe c s.data.toList),bs (Jgq c s.data.toList),Jst c s.data.toList):=by
 unfold Jx3
 rw[show((⟨⟨[c]⟩⟩:ByteArray).data.toList)=[c] from rfl,Jux]
 rfl
theorem Jks (s:ByteArray):Xz s ⟨⟨[32]⟩⟩=Jd8 s 32:=Jd3 s 32
def Yx (s:ByteArray):ByteArray:=bs (s.data.toList.take (s.size-8))
def Jmx (s:ByteArray):ByteArray:=bs (s.data.toList.drop (s.size-7))
def J4n (b:ByteArray):ByteArray:=bs (Jbe 32 b.data.toList)
def J3v (b:ByteArray):ByteArray:=bs (Jgq 32 b.data.toList)
def evX (b:ByteArray):Ev:=((Kb (J4n b)).1,(Y5 (Jd8 (J3v b) 32)).1.2)
def okX (b:ByteArray):Bool:=bif bif !(Kb (J4n b)).2 then true else !(Y5 (Jd8 (J3v b) 32)).2 then true else Jb (evX b) !=0
def Jow (s:ByteArray):Bool:=bif bif decide ((s.size:Int)-7-1<0) then true else((s.data.toList.getD (s.size-8) 0).toNat:Int) !=35 then true else !Jss (Jmx s)
def V7 (s:ByteArray):Ev×Int:=bif Jow s then(evz,25) else bif !((Joo (Yx s)).toList==(Jmx s).toList) then(evz,27) else bif okX (Yx s) then(evz,25) else(evX (Yx s),0)
def U9 (s:ByteArray) (k:Int):Ev×Int:=if(V7 s).2=0 then((V7 s).1,bif (V7 s).1.1 !=k then 11 else 0) else V7 s
def Kbv:Con:={args:=[aS,aI],ress:=[(true,sEv),I],owns:=[],pre:=fun(s,_)=>[s.size≤1000000],spec:=fun(s,k,_)=>((U9 s k).1,(U9 s k).2,())}
theorem Jkp (t:Tk):((U3 t).1=Ja∨(U3 t).1∈t.1)∧∀w∈(U3 t).2.1,w∈t.1:=by
 rw[Jai]
 cases h:Lp t with
 |true=>exact⟨.inl rfl,fun w hw=>by cases hw⟩
 |false=>exact⟨.inr (Jc (Jdq h)),fun w hw=>List.mem_of_mem_drop hw⟩
theorem Jg0:∀(n:Nat) (t:Tk) (o:List ByteArray),(L6 n t o).1.length=o.length+n
 |0,_,_=>rfl
 |n+1,t,o=>by
  rw[L6,Jg0 n]
  simp only[List.length_append,List.length_singleton]
  omega
theorem Jgz:∀(n:Nat) (t:Tk) (o:List ByteArray),∀s∈(L6 n t o).1,s∈o∨s=Ja∨s∈t.1
 |0,_,_,s,h=> .inl h
 | n + 1, t, o, s, h => by
  have hs:=Jkp t
  rw[L6] at h
  rcases Jgz n _ _ s h with h|h|h
  ·rcases List.mem_append.1 h with h|h
   ·exact .inl h
   ·rw[List.mem_singleton.1 h]
    exact .inr hs.1
  ·exact .inr (.inl h)
  ·exact .inr (.inr (hs.2 _ h))
theorem Jgy:∀(n:Nat) (t:Tk) (o:List Int),(Jaj n t o).1.length=o.length+n
 |0,_,_=>rfl
 |n+1,t,o=>by
  rw[Jaj,Jgy n]
  simp only[List.length_append,List.length_singleton]
  omega
theorem Jo5 {ws:List ByteArray} (hw:∀w∈ws,w.size≤1000000):(Y5 ws).1.2.2.1.length≤3∧(Y5 ws).1.2.2.2.1.length≤4∧∀s∈(Y5 ws).1.2.2.1,s.size≤1000000:=by
 have hB:=Jjf (U3 (ws,false)).1
 have hs:=Jkp (ws,false)
 unfold Y5
 cases Yw (U3 (ws,false)).1 with
 |false=>exact⟨Nat.zero_le _,Nat.zero_le _,fun s h=>by cases h⟩
 | true =>
  simp only[cond_true]
  refine⟨?_, ?_,fun s h=> ?_⟩
  ·unfold X0;rw[Jg0];simp;omega
  ·unfold Jcm;rw[Jgy];simp;omega
  ·rcases Jgz _ _ _ s h with h|h|h
   ·cases h
   ·rw[h];decide
   ·exact hw _ (hs.2 _ h)
theorem Dq {s:ByteArray} {k:Int} {x:Ev×Int} (h:V7 s=x) (hx:x.2≠0):U9 s k=x:=by
 unfold U9;rw[h,if_neg hx]
def J08 (a:Bt):=Nc (ByteArray.size a)-(7:Int)-1
def J9e (a:Bt):=J08 a+1
def K1b (a:Bt):=decide (J08 a<0)
def Kla (a:Bt):=ByteArray.extract a 0 (Int.toNat (J08 a))
def Kkq (a:Bt):=ByteArray.extract a (Int.toNat (J9e a)) (ByteArray.size a)
def K0j (a:Bt):=ByteArray.size (Kla a)≤1000000
def Kzw (a:Bt) (b:Int):=D4=(U9 a b).1∧25=(U9 a b).2
def Ky1 (a:Bt):=Jx3 (Kla a) Hp
def Kyy (a:Bt):=(Ky1 a).1
def Kyk (a:Bt):=(Ky1 a).2.1
def Kxk (a:Bt):=Kb (Kyy a)
def Kxg (a:Bt):=(Kxk a).1
def Kww (a:Bt):=(0:Int)≤0∧0≤J08 a∧J08 a≤Nc (ByteArray.size a)
def Khr (a:Bt):=Xz (Kyk a) Hp
def Kvz (a:Bt):=Y5 (Khr a)
def Kvv (a:Bt):=0≤J9e a∧J9e a≤Nc (ByteArray.size a)∧Nc (ByteArray.size a)≤Nc (ByteArray.size a)
def Kvt (a:Bt):=(Kvz a).1.2
def Kds (a:Bt):=(Kvt a).2
def Kvm (a:Bt):=(Kds a).2
def Kun (a:Bt):=bif K1b a then true else Nc (UInt8.toNat (Gt (Z13 a) (J08 a) 0)) !=35
def Kg0 (a:Bt):=Kun a=false
def Ktz (a:Bt):=bif !(Kxk a).2 then true else !(Kvz a).2
def Kgr (a:Bt):=Ktz a=false
def Ksp (a:Bt):=(Kxg a,(Kvt a).1,(Kds a).1,E2 (Kvm a))
theorem Kpr:Ok Tryz.prog 108 Kbv:=okW K27 Tryz.f108 na fun xx=>by
 obtain⟨(s:ByteArray),(k:Int),_⟩:=xx
 refine(by kernel_rfl:(ByteArray.size s≤1000000→(Iw (Nc (ByteArray.size s)-7)∧Iw (J08 s))∧((K1b s=false→Bd (J08 s) (Nc (ByteArray.size s)))∧(Kg0 s→Iw (J9e s))∧(Kg0 s→Kvv s)∧(Kg0 s→ByteArray.size (Kkq s)≤1000000))∧Br (bif Kun s then true else !Jss (Kkq s)) (Kzw s k) ((Kww s∧K0j s∧Iw (J9e s)∧Kvv s)∧Br (!Lb (Joo (Kla s)) (Kkq s)) (D4=(U9 s k).1∧27=(U9 s k).2) ((Kww s∧K0j s)∧ByteArray.size (Kyy s)≤1000000∧(ByteArray.size (Kyk s)≤1000000∧1≤1∧List.length (Khr s)≤1000000∧∀(w:ByteArray),w∈Khr s→ByteArray.size w≤1000000)∧((Kgr s→List.length (Kds s).1≤1000000)∧(Kgr s→List.length (Kvm s).1≤1000000)∧(Kgr s→∀(s_1:ByteArray),s_1∈(Kds s).1→ByteArray.size s_1≤1000000))∧Br (bif Ktz s then true else Jb (Ksp s) !=0) (Kzw s k) (Ksp s=(U9 s k).1∧(bif Kxg s !=k then 11 else 0)=(U9 s k).2))))=_).mp ?_
 delta Z13 Hp J08 D4 J9e K1b Kla Kkq K0j Kzw Ky1 Kyy Kyk Kxk Kxg Kww Khr Kvz Kvv Kvt Kds Kvm Kun Kg0 Ktz Kgr Ksp Br Iw Bd Nc Gt B0 Lb E2
 intro hs
 have hl:s.data.toList.length=s.size:=by simp
 by_cases hq:s.size<8
 ·have hd:decide ((s.size:Int)-7-1<0)=true:=decide_eq_true (by omega)
  have h0:V7 s=(evz,25):=by unfold V7 Jow;rw[hd];rfl
  rw[Dq h0 (by decide)]
  simp only[hd,cond_true]
  exact⟨by(repeat' first|apply And.intro|(first|omega|dsimp only;omega)),⟨⟨fun h=>(by cases h),fun h=>(by cases h),fun h=>(by cases h),fun h=>(by cases h)⟩,fun _=>by(repeat' first|exact rfl|exact⟨⟩|apply And.intro|omega|dsimp only;omega),fun h=>(by cases h)⟩⟩
 ·have e1:((s.size:Int)-7-1).toNat=s.size-8:=by omega
  have e2:((s.size:Int)-7-1+1).toNat=s.size-7:=by omega
  have e3:s.extract 0 (s.size-8)=Yx s:=Jzx s _
  have e4:s.extract (s.size-7) s.size=Jmx s:=Jps s _
  have hbl:(Yx s).data.toList.length=s.size-8:=by unfold Yx;simp[bs]
  have hbs:(Yx s).size=s.size-8:=by unfold Yx;rw[Xk];simp
  have hts:(Jmx s).size≤1000000:=by unfold Jmx;rw[Xk];simp;omega
  have hd:decide ((s.size:Int)-7-1<0)=false:=decide_eq_false (by omega)
  simp only[e1,e2,e3,e4,Jvr,Jks]
  have hsh:Jow s=bif bif decide ((s.size:Int)-7-1<0) then true else((s.data.toList.getD (s.size-8) 0).toNat:Int) !=35 then true else !Jss (Jmx s):=rfl
  rw[←hsh]
  have hA:(bs (Jbe 32 (Yx s).data.toList)).size≤1000000:=by rw[Xk];have:=Jju 32 (Yx s).data.toList;omega
  have hZ:(bs (Jgq 32 (Yx s).data.toList)).size≤1000000:=by rw[Xk];have:=Jds 32 (Yx s).data.toList;omega
  have hW:∀w∈Jd8 (bs (Jgq 32 (Yx s).data.toList)) 32,w.size≤1000000:=by
   intro w hw
   obtain⟨v,hv,rfl⟩:=List.mem_map.1 hw
   have:=Jal _ _ _ hv
   have h3:=Jds 32 (Yx s).data.toList
   have h4:(bs (Jgq 32 (Yx s).data.toList)).data.toList.length=(Jgq 32 (Yx s).data.toList).length:=rfl
   rw[Xk]
   omega
  refine⟨by(repeat' first|apply And.intro|(first|omega|dsimp only;omega)),⟨fun _=>by(repeat' first|apply And.intro|(first|omega|dsimp only;omega)),fun _=>by(repeat' first|apply And.intro|(first|omega|dsimp only;omega)),fun _=>by(repeat' first|apply And.intro|(first|omega|dsimp only;omega)),fun _=>hts⟩,fun h=> ?_,fun h=>⟨⟨by(repeat' first|apply And.intro|(first|omega|dsimp only;omega)),by omega,by(repeat' first|apply And.intro|(first|omega|dsimp only;omega)),by(repeat' first|apply And.intro|(first|omega|dsimp only;omega))⟩,fun h2=> ?_,fun h2=>⟨⟨by(repeat' first|apply And.intro|(first|omega|dsimp only;omega)),by omega⟩,hA,⟨hZ,by decide, ?_, ?_⟩, ?_⟩⟩⟩
  ·have h0:V7 s=(evz,25):=by unfold V7;rw[h];rfl
   rw[Dq h0 (by decide)];exact⟨rfl,rfl⟩
  ·have h0:V7 s=(evz,27):=by unfold V7;rw[h,h2];rfl
   rw[Dq h0 (by decide)];exact⟨rfl,rfl⟩
  ·unfold Jd8
   rw[List.length_map]
   have:=Jik (UInt8.ofNat (32:Int).toNat) (bs (Jgq 32 (Yx s).data.toList)).data.toList
   have h3:=Jds 32 (Yx s).data.toList
   have h4:(bs (Jgq 32 (Yx s).data.toList)).data.toList.length=(Jgq 32 (Yx s).data.toList).length:=rfl
   omega
  ·exact hW
  ·have hr:=Jo5 (ws:=Jd8 (bs (Jgq 32 (Yx s).data.toList)) 32) hW
   refine⟨⟨fun _=>Nat.le_trans hr.1 (by decide),fun _=>Nat.le_trans hr.2.1 (by decide),fun _=>hr.2.2⟩,fun h3=> ?_,fun h3=> ?_⟩
   ·have h3:okX (Yx s)=true:=h3
    have h0:V7 s=(evz,25):=by unfold V7;rw[h,h2,h3];rfl
    rw[Dq h0 (by decide)];exact⟨rfl,rfl⟩
   ·have h3:okX (Yx s)=false:=h3
    have h0:V7 s=(evX (Yx s),0):=by unfold V7;rw[h,h2,h3];rfl
    have h4:U9 s k=(evX (Yx s),bif (evX (Yx s)).1 !=k then 11 else 0):=by unfold U9;rw[h0];rfl
    rw[h4]
    exact⟨rfl,rfl⟩
abbrev K26:=K27.add Kpr
def J3z:Nat→List UInt8→Int→List Ev→List Ev×Int×Int
 |0,_,at_,o=>(o,at_,0)
 |f+1,l,at_,o=>
  if l=[] then(o,at_,0) else
  if Jst 10 l=false then(o,at_,28) else
  if(U9 (bs (Jbe 10 l)) (o.length+1)).2≠0 then(o,at_,(U9 (bs (Jbe 10 l)) (o.length+1)).2) else
  J3z f (Jgq 10 l) (at_+((Jbe 10 l).length+1)) (o++[(U9 (bs (Jbe 10 l)) (o.length+1)).1])
def K5 (s:ByteArray):List Ev×Int×Int:=if 1000000<s.size then([],0,26) else J3z s.size s.data.toList 0 []
def Jz8:Con:={args:=[aS],ress:=[(false, .list 67 sEv),I,I],owns:=[],pre:=fun _=>[],spec:=fun(s,_)=>((K5 s).1,(K5 s).2.1,(K5 s).2.2,())}
abbrev Kcc (s:ByteArray):Ann:={X:=Nat×List Ev,σ:=fun(k,o)=>⟨1,[(0, .one (.str s)),(5, .one (.sl 0)),(6, .one (.int .i64 k))],[(0, .own 67 sEv o)]⟩,inv:=fun(k,o)=>k≤s.size∧s.size≤1000000∧o.length≤1000∧∃f,s.size-k≤f∧J3z f (s.data.toList.drop k) k o=K5 s,mu:=fun(k,_)=>s.size-k}
theorem Jvs (c:UInt8):∀{l:List UInt8},Jst c l=true→l=Jbe c l++c::Jgq c l
 |[],h=>by cases h
 | b :: r, h => by
  unfold Jst at h
  unfold Jbe Jgq
  by_cases q:b=c
  ·rw[if_pos q,if_pos q,q];rfl
  ·rw[if_neg q] at h
   rw[if_neg q,if_neg q,List.cons_append,←Jvs c h]
theorem Jvm {s:ByteArray} {k:Int} (h:(U9 s k).2=0):Jb (U9 s k).1=0∧(U9 s k).1.1=k:=by
 have h0:(V7 s).2=0:=by
  unfold U9 at h
  by_cases q:(V7 s).2=0
  ·exact q
  ·rw[if_neg q] at h;exact h
 have e:U9 s k=((V7 s).1,bif (V7 s).1.1 !=k then 11 else 0):=by unfold U9;rw[if_pos h0]
 rw[e] at h⊢
 refine⟨?_, ?_⟩
 ·unfold V7 at h0⊢
  cases h1:Jow s with
  |true=>rw[h1] at h0;cases h0
  | false =>
   rw[h1,cond_false] at h0
   rw[cond_false]
   cases h2: !((Joo (Yx s)).toList==(Jmx s).toList) with
   |true=>rw[h2] at h0;cases h0
   | false =>
    rw[h2,cond_false] at h0
    rw[cond_false]
    cases h3:okX (Yx s) with
    |true=>rw[h3] at h0;cases h0
    | false =>
     rw[cond_false]
     unfold okX at h3
     cases h4:(bif !(Kb (J4n (Yx s))).2 then true else !(Y5 (Jd8 (J3v (Yx s)) 32)).2) with
     |true=>rw[h4] at h3;cases h3
     |false=>
      rw[h4,cond_false] at h3
      exact bne_eq_false_iff_eq.1 h3
 ·have h:(bif (V7 s).1.1 !=k then(11:Int) else 0)=0:=h
  cases h5:((V7 s).1.1 !=k) with
  |true=>rw[h5] at h;cases h
  |false=>exact bne_eq_false_iff_eq.1 h5
def Kk5 (a:Bt) (b:Nat×List Ev):=Jx3 (ByteArray.extract a b.1 (ByteArray.size a)) (ByteArray.mk (Array.mk [10]))
def K0t (a:Bt) (b:Nat×List Ev):=ByteArray.size (Kk5 a b).1
def Kzz (a:Bt) (b:Nat×List Ev):=Nc (K0t a b)+1
def Kzj (a:Bt) (b:Nat×List Ev):=U9 (Kk5 a b).1 (Ln b.2+1)
def Kzg (a:Bt) (b:Nat×List Ev):=(Kzj a b).1
def Kzf (a:Bt) (b:Nat×List Ev):=(Kzj a b).2
def Ky8 (a:Nat×List Ev) (b:Bt):=Nc a.1+Kzz b a
def Ky6 (a:Bt) (b:Nat×List Ev):=(Kzg a b).2
def Ky2 (a:Bt) (b:Nat×List Ev):=(Ky6 a b).2
def Kg9 (a:Nat×List Ev) (b:Bt):=a.1≤ByteArray.size b∧ByteArray.size b≤1000000∧List.length a.2≤1000∧∃(f:Nat),ByteArray.size b-a.1≤f∧J3z f (List.drop a.1 (Z13 b)) (Nc a.1) a.2=K5 b
theorem K5d:Ok Tryz.prog 34 Jz8:=okW K26 Tryz.f34 (fun xx=>Xr (Kcc xx.1)) fun xx=>by
 obtain⟨(s:ByteArray),_⟩:=xx
 refine(by kernel_rfl:(Br (decide (1000000<Nc (ByteArray.size s))) ([]=(K5 s).1∧0=(K5 s).2.1∧26=(K5 s).2.2) (∃(x:Nat×List Ev),Sf s (0=Nc x.1∧List.length x.2=0)∧Kg9 x s∧∀(x:Nat×List Ev),Kg9 x s→Br (decide (Nc x.1<Nc (ByteArray.size s))) (((0≤Nc x.1∧Nc x.1≤Nc (ByteArray.size s)∧Nc (ByteArray.size s)≤Nc (ByteArray.size s))∧ByteArray.size (ByteArray.extract s x.1 (ByteArray.size s))≤1000000)∧Br (!(Kk5 s x).2.2) (x.2=(K5 s).1∧Nc x.1=(K5 s).2.1∧28=(K5 s).2.2) ((Iw (Ln x.2+1)∧K0t s x≤1000000)∧Br (Kzf s x !=0) (x.2=(K5 s).1∧Nc x.1=(K5 s).2.1∧Kzf s x=(K5 s).2.2) ((List.length x.2+1)*88≤140737488355328∧(Iw (Kzz s x)∧Iw (Ky8 x s))∧∃(y:Nat×List Ev),Sf s (Ky8 x s=Nc y.1∧x.2++[((Kzg s x).1,(Ky6 s x).1,(Ky2 s x).1,E2 (Ky2 s x).2)]=y.2)∧Kg9 y s∧ByteArray.size s-y.1<ByteArray.size s-x.1))) (x.2=(K5 s).1∧Nc x.1=(K5 s).2.1∧0=(K5 s).2.2)))=_).mp ?_
 delta Z13 Kk5 K0t Kzz Kzj Kzg Kzf Ky8 Ky6 Ky2 Kg9 Br Iw Sf Ln Nc E2
 refine⟨fun h=> ?_,fun h=> ?_⟩
 ·have h:1000000<s.size:=by have:=of_decide_eq_true h;omega
  unfold K5;rw[if_pos h];exact⟨rfl,rfl,rfl⟩
 have hs:¬1000000<s.size:=by have:=of_decide_eq_false h;omega
 have hl:s.data.toList.length=s.size:=by simp
 refine⟨((0:Nat),[]),by(repeat' first|exact rfl|exact⟨⟩|apply And.intro|omega|dsimp only;omega),⟨Nat.zero_le _,by(first|omega|dsimp only;omega),Nat.zero_le _,⟨s.size,by omega,by unfold K5;rw[if_neg hs];rfl⟩⟩,fun(x:Nat×List Ev) hx=>⟨fun hlt=> ?_,fun hlt=> ?_⟩⟩
 ·obtain⟨k,o⟩:=x
  obtain⟨k1,k2,k3,f,kf,k4⟩:=hx
  have hlt:k<s.size:=by simpa using hlt
  dsimp only at k1 k3
  dsimp only at kf
  have hf:f=(f-1)+1:=by omega
  have hne:s.data.toList.drop k≠[]:=by
   intro h
   have:=congrArg List.length h
   rw[List.length_drop,hl] at this
   simp at this;omega
  rw[hf,J3z,if_neg hne] at k4
  have e0:s.extract k s.size=bs (s.data.toList.drop k):=Jps s k
  have e1:((k:Int)).toNat=k:=Int.toNat_natCast k
  simp only[e1,e0,Jvr]
  have k4:(if Jst 10 (s.data.toList.drop k)=false then(o,(k:Int),(28:Int)) else if(U9 (bs (Jbe 10 (s.data.toList.drop k))) (o.length+1)).2≠0 then(o,(k:Int),(U9 (bs (Jbe 10 (s.data.toList.drop k))) (o.length+1)).2) else J3z (f-1) (Jgq 10 (s.data.toList.drop k)) (k+((Jbe 10 (s.data.toList.drop k)).length+1)) (o++[(U9 (bs (Jbe 10 (s.data.toList.drop k))) (o.length+1)).1]))=K5 s:=k4
  have hA:=Jju 10 (s.data.toList.drop k)
  rw[List.length_drop,hl] at hA
  have hbd:∀l,(bs l).data.toList=l:=fun l=>rfl
  simp only[hbd,Xk,List.length_drop,hl]
  refine⟨by(repeat' first|apply And.intro|(first|omega|dsimp only;omega)),fun h=> ?_,fun h=>⟨⟨by(repeat' first|apply And.intro|(first|omega|dsimp only;omega)),by omega⟩,fun h2=> ?_,fun h2=> ?_⟩⟩
  ·have h:Jst 10 (s.data.toList.drop k)=false:=by simpa using h
   rw[if_pos h] at k4
   rw[←k4];exact⟨rfl,rfl,rfl⟩
  ·have h:Jst 10 (s.data.toList.drop k)=true:=by simpa using h
   have h2:(U9 (bs (Jbe 10 (s.data.toList.drop k))) (o.length+1)).2≠0:=bne_iff_ne.1 h2
   rw[if_neg (by rw[h];decide),if_pos h2] at k4
   rw[←k4];exact⟨rfl,rfl,rfl⟩
  ·have h:Jst 10 (s.data.toList.drop k)=true:=by simpa using h
   have h2:(U9 (bs (Jbe 10 (s.data.toList.drop k))) (o.length+1)).2=0:=bne_eq_false_iff_eq.1 h2
   rw[if_neg (by rw[h];decide),if_neg (by rw[h2];simp)] at k4
   have hc:=Jvs 10 h
   have hlc:=congrArg List.length hc
   rw[List.length_drop,hl,List.length_append,List.length_cons] at hlc
   have hd:s.data.toList.drop (k+((Jbe 10 (s.data.toList.drop k)).length+1))=Jgq 10 (s.data.toList.drop k):=by
    rw[←List.drop_drop]
    have:=congrArg (List.drop ((Jbe 10 (s.data.toList.drop k)).length+1)) hc
    rw[this,show(Jbe 10 (s.data.toList.drop k)).length+1=(Jbe 10 (s.data.toList.drop k)).length+1 from rfl]
    simp[List.drop_append]
   have hn:=(Jvm h2)
   have hnum:=Ym.1 (show Kj (U9 (bs (Jbe 10 (s.data.toList.drop k))) (o.length+1)).1.1 1 1000=0 by
    have:=(Uo hn.1).num
    exact Ym.2 this)
   rw[hn.2] at hnum
   refine⟨by omega,by(repeat' first|apply And.intro|(first|omega|dsimp only;omega)),(k+((Jbe 10 (s.data.toList.drop k)).length+1),o++[(U9 (bs (Jbe 10 (s.data.toList.drop k))) (o.length+1)).1]),by(repeat' first|exact rfl|exact⟨⟩|apply And.intro|omega|dsimp only;omega),⟨by(first|omega|dsimp only;omega),k2,by simp only[List.length_append,List.length_singleton];omega,f-1,by(first|omega|dsimp only;omega), ?_⟩,by(first|omega|dsimp only;omega)⟩
   dsimp only
   rw[hd]
   exact k4
 ·obtain⟨k,o⟩:=x
  obtain⟨k1,k2,k3,f,kf,k4⟩:=hx
  have hlt:¬k<s.size:=by simpa using hlt
  dsimp only at k1 k3
  have e:s.data.toList.drop k=[]:=List.drop_eq_nil_of_le (by omega)
  have k4:J3z f (s.data.toList.drop k) k o=K5 s:=k4
  rw[e] at k4
  have k5:(o,(k:Int),(0:Int))=K5 s:=by
   rw[←k4]
   cases f<;>rfl
  rw[←k5]
  exact⟨rfl,rfl,rfl⟩
abbrev K7c:=K26.add K5d
theorem Jat (n:Int) (h0: -9223372036854775808≤n) (h1:n≤9223372036854775807):(Vk n).size≤40:=by
 have:=Lib.itoa_length_le n h0 h1
 have e:(Vk n).size=(Lib.itoa n).length:=rfl
 omega
theorem J91 {l:List Nat} {b:Nat} (h:∀x∈l,x≤b):l.sum≤b*l.length:=by
 induction l with
 |nil=>simp
 |cons x l ih=>
  have h1:=h x (List.mem_cons_self ..)
  have h2:=ih fun y hy=>h y (List.mem_cons_of_mem _ hy)
  rw[List.sum_cons,List.length_cons,Nat.mul_succ]
  omega
theorem Jpa {s:ByteArray} (h:Yo s=true):s.size≤24:=by
 unfold Yo at h
 simp only[Bool.and_eq_true,decide_eq_true_eq] at h
 omega
theorem J4h {k:ByteArray} (h:Yw k=true):k.size≤7:=by
 rcases U4 h with h|h|h|h|h|h|h|h|h|h|h<;>subst h<;>decide
theorem J5k {e:Ev} (h:Jb e=0):Lw e:=by
 have hE:=Uo h
 have hk:=Jjf e.2.1
 have h1:=hE.num
 have h2:=hE.nn
 have h3:=hE.nv
 have h4:=J4h hE.kind
 refine⟨by omega,by omega,by omega,fun v hv=>by have:=hE.val v hv;omega, ?_⟩
 refine Nat.le_trans (J91 (b:=41) fun x hx=> ?_) ?_
 ·obtain⟨s,hs,rfl⟩:=List.mem_map.1 hx
  rcases List.mem_cons.1 hs with rfl|hs
  ·have:=Jat e.1 (by omega) (by omega);omega
  rcases List.mem_cons.1 hs with rfl|hs
  ·omega
  rcases List.mem_append.1 hs with hs|hs
  ·have:=Jpa (hE.name s hs);omega
  ·obtain⟨v,hv,rfl⟩:=List.mem_map.1 hs
   have:=hE.val v hv
   have:=Jat v (by omega) (by omega);omega
 ·unfold J0g
  simp only[List.length_map,List.length_cons,List.length_append]
  omega
theorem Juc {e:Ev} (h:Lw e):(J3y e).size=(Zt e).size+9:=by
 have h2:=Jkr (Zt e)
 unfold J3y
 rw[Xk]
 simp[h2]
abbrev K25:=K7c
def Kqp:Con:={args:=[.val false (.list 67 sEv), .fn [(true,sEv)] tS],ress:=[(false, .list 9 .str)],owns:=[true],pre:=fun(l,(q,_),_)=>[l.length≤1000000,∀x∈l,Uq (q (x,()))],spec:=fun(l,(_,f),_)=>(l.map fun x=>f (x,()),())}
def Z9 (a:Nat) (b:List Ev):=Bd (Nc a) (Ln b)
def Z35 (a:List Ev):=List.length a≤1000000
def Z71 (a:Nat) (b:List Ev):=decide (Nc a<Ln b)
def Jyg (a:List Ev) (b:Ev):=b∈a
def J9b (a:Ev×Unit→Bt) (b:Nat) (c:List Ev):=List.map (fun(x:Ev)=>a (x,PUnit.unit)) (List.take b c)
def J22 (a:List Ev) (b:Nat):=List.getD a b D4
def J6i (a:List Ev) (b:Nat):=(J22 a b).1
def Jxe (a:List Ev) (b:Nat):=(J22 a b).2.2
def J0y (a:List Ev) (b:Nat):=(J22 a b).2.1
def J6e (a:Nat) (b:List Ev) (c:Nat):=a≤List.length b∧List.length b-a<List.length b-c
def Jxd (a:List Ev) (b:Nat):=(Jxe a b).2
def J8u (a:List Ev) (b:Ev×Unit→List Prop):=∀(x:Ev),Jyg a x→Uq (b (x,PUnit.unit))
def Kdb (a:List Ev) (b:Nat):=(J6i a b,J0y a b,(Jxe a b).1,E2 (Jxd a b))
def J55 (a:List Ev) (b:Nat):=(Kdb a b,PUnit.unit)
def J8a (a:Ev×Unit→List Prop) (b:List Ev) (c:Nat):=Uq (a (J55 b c))
theorem Kpj:Ok Tryz.prog 124 Kqp:=okW K25 Tryz.f124 (fun xx=>Xr (Jba 67 9 sEv xx.1 tS true xx.2.1.1 xx.2.1.2)) fun xx=>by
 obtain⟨(l:List Ev),⟨(q:Ev×Unit→List Prop),(f:Ev×Unit→ByteArray)⟩,_⟩:=xx
 refine(by kernel_rfl:(Z35 l→J8u l q→∃(x:Nat),Si (Ln l) (0=Nc x∧Sf l ((fun(x:Ev×PUnit)=>q x)=q∧(fun(x:Ev×PUnit)=>f x)=f∧List.length (J9b f x l)=0))∧x≤List.length l∧∀(x:Nat),x≤List.length l→Br (Z71 x l) (Tw (Z9 x l)∧(J8a q l x∧(List.length (J9b f x l)+1)*16≤140737488355328)∧Z16 x∧∃(y:Nat),Si (Ln l) (Z82 x y∧Sf l ((fun(x:Ev×PUnit)=>q x)=q∧(fun(x:Ev×PUnit)=>f x)=f∧J9b f x l++[f (J55 l x)]=J9b f y l))∧J6e y l x) (J9b f x l=List.map (fun(x:Ev)=>f (x,PUnit.unit)) l))=_).mp ?_
 delta Z9 Z16 Z35 Z71 Z82 Jyg D4 J9b J22 J6i Jxe J0y J6e Jxd J8u Kdb J55 J8a Br Iw Bd Tw Sf Si Ln Nc B0 E2
 intro hb hq
 refine⟨(0:Nat),⟨rfl,rfl,rfl,rfl,rfl,by simp⟩,Nat.zero_le _,fun(k:Nat) hk=>⟨fun h=> ?_,fun h=> ?_⟩⟩
 ·have hlt:k<l.length:=by simpa using h
  refine⟨by omega,⟨hq (l.getD k evz) (Jc hlt),by simp only[List.length_map,List.length_take];omega⟩,by omega,(k+1:Nat),⟨rfl,by simp,rfl,rfl,rfl, ?_⟩,by omega,by omega⟩
  rw[←U5 (d:=evz) hlt,List.map_append];rfl
 ·have hlt:¬k<l.length:=by simpa using h
  rw[List.take_of_length_le (by omega)]
abbrev K24:=K25.add Kpj
def cQ (pre:Reg→ByteArray→List Prop) (f:Reg→ByteArray→List ByteArray):Con:={args:=[Jbf,aS],ress:=[(false, .list 9 .str)],owns:=[true],pre:=fun(r,s,_)=>pre r s,spec:=fun(r,s,_)=>(f r s,())}
theorem Jwo {tk st:Int} {S:List Sta} {O:List Ord} {M:List Met} {X:List Out} {Q:List Per} {s:ByteArray} (hr:Jl (tk,st,S,O,M,X,Q)):∀(l:List Sta) (n:Int),n-3200000000*l.length≤Jx4 st O M s l n∧Jx4 st O M s l n≤n+3200000000*l.length
 |[],n=>by simp[Jx4]
 | x :: l, n => by
  have hb:=Jqb (a:=s) (b:=x.1) hr
  have ih:=Jwo (s:=s) hr l (bif x.1.toList !=s.toList then n+Di st O M s x.1 else n)
  have hd:n-3200000000≤(bif x.1.toList !=s.toList then n+Di st O M s x.1 else n)∧(bif x.1.toList !=s.toList then n+Di st O M s x.1 else n)≤n+3200000000:=by
   cases x.1.toList !=s.toList<;>simp only[cond_true,cond_false]<;>omega
  simp only[List.length_cons]
  unfold Jx4
  omega
theorem Jwm {tk st:Int} {S:List Sta} {O:List Ord} {M:List Met} {X:List Out} {Q:List Per} {s:ByteArray} (hr:Jl (tk,st,S,O,M,X,Q)): -19200000000≤Jwn st S O M s∧Jwn st S O M s≤19200000000:=by
 have h:=Jwo (s:=s) hr S 0
 have nS:S.length≤6:=hr.nS
 unfold Jwn
 omega
def Jud:Reg→ByteArray→List ByteArray:=fun(_,st,S,O,M,_) s=>[Vk (Jwn st S O M s)]
def Kqj:Con:=cQ (fun r _=>[Jl r]) Jud
theorem Knv:Ok Tryz.prog 195 Kqj:=okW K24 Tryz.f195 na fun xx=>by
 obtain⟨⟨(tk:Int),(st:Int),(S:List Sta),(O:List Ord),(M:List Met),(X:List Out),(Q:List Per)⟩,(s:ByteArray),_⟩:=xx
 refine(by kernel_rfl:(Jw tk st S O M X Q→(Jw tk st S O M X Q∧Iw (Jwn st S O M s))∧[Vk (Jwn st S O M s)]=Jud (Z63 tk st S O M X Q) s)=_).mp ?_
 delta Z63 Jw Iw
 intro hr
 have hb:=Jwm (s:=s) hr
 exact⟨⟨hr,by omega,by omega⟩,rfl⟩
abbrev K23:=K24.add Knv
def Jel:Reg→ByteArray→List ByteArray:=fun(_,_,S,_) s=>[Vk (Hm S s).2.2]
def Ka5:Con:=cQ (fun r s=>[Jl r,0≤Jy r.2.2.1 s]) Jel
theorem Knu:Ok Tryz.prog 196 Ka5:=okW K23 Tryz.f196 na fun xx=>by
 obtain⟨⟨(tk:Int),(st:Int),(S:List Sta),(O:List Ord),(M:List Met),(X:List Out),(Q:List Per)⟩,(s:ByteArray),_⟩:=xx
 refine(by kernel_rfl:(Jw tk st S O M X Q→Z21 S s→(Z58 S∧Z21 S s∧Iw (Hm S s).2.2)∧[Vk (Hm S s).2.2]=Jel (Z63 tk st S O M X Q) s)=_).mp ?_
 delta Z21 Z58 Z63 Jw Iw
 intro hr h
 have nS:S.length≤6:=hr.nS
 have hs:0≤(Hm S s).2.2∧(Hm S s).2.2≤1000:=(Jij hr.sta h).pri
 exact⟨⟨by omega,h,by omega,by omega⟩,rfl⟩
abbrev K22:=K23.add Knu
def Jem:Reg→ByteArray→List ByteArray:=fun(_,st,_,O,M,_) s=>[Vk (Ut st M (X1 O s)).2.1,Vk (Ut st M (X1 O s)).2.2.1,Vk (Ut st M (X1 O s)).2.2.2.1,Vk (Ut st M (X1 O s)).2.2.2.2.1,Vk (Ut st M (X1 O s)).2.2.2.2.2]
def Ka7:Con:=cQ (fun r s=>[Jl r,0≤Kw r.2.2.2.1 s]) Jem
def Kwu (a:List Ord) (b:Bt):=((X1 a b).1,(X1 a b).2.1,(X1 a b).2.2.1,E2 (X1 a b).2.2.2.1,(X1 a b).2.2.2.2.1,E2 (X1 a b).2.2.2.2.2)
def Kwl (a:Int) (b:List Met) (c:List Ord) (d:Bt):=(Ut a b (Kwu c d)).2
def Kwh (a:Int) (b:List Met) (c:List Ord) (d:Bt):=(Kwl a b c d).1
def Kwg (a:Int) (b:List Met) (c:List Ord) (d:Bt):=(Kwl a b c d).2
def Kwd (a:Int) (b:List Met) (c:List Ord) (d:Bt):=(Kwg a b c d).2
def Kwc (a:Int) (b:List Met) (c:List Ord) (d:Bt):=(Kwg a b c d).1
def Kwb (a:Int) (b:List Met) (c:List Ord) (d:Bt):=(Kwd a b c d).1
def Kv9 (a:Int) (b:List Met) (c:List Ord) (d:Bt):=(Kwd a b c d).2
def Kv7 (a:Int) (b:List Met) (c:List Ord) (d:Bt):=(Kv9 a b c d).1
def Kv6 (a:Int) (b:List Met) (c:List Ord) (d:Bt):=(Kv9 a b c d).2
theorem Knt:Ok Tryz.prog 197 Ka7:=okW K22 Tryz.f197 na fun xx=>by
 obtain⟨⟨(tk:Int),(st:Int),(S:List Sta),(O:List Ord),(M:List Met),(X:List Out),(Q:List Per)⟩,(s:ByteArray),_⟩:=xx
 refine(by kernel_rfl:(Jw tk st S O M X Q→0≤Kw O s→(Z53 O∧0≤Kw O s∧Jw tk st S O M X Q∧Kwu O s∈O)∧(5≤1000000∧∀(x:Int),x∈[Kwh st M O s,Kwc st M O s,Kwb st M O s,Kv7 st M O s,Kv6 st M O s]→Iw x)∧[Vk (Kwh st M O s),Vk (Kwc st M O s),Vk (Kwb st M O s),Vk (Kv7 st M O s),Vk (Kv6 st M O s)]=Jem (Z63 tk st S O M X Q) s)=_).mp ?_
 delta Z53 Z63 Jw Kwu Kwl Kwh Kwg Kwd Kwc Kwb Kv9 Kv7 Kv6 Iw E2
 intro hr h
 have nO:O.length≤32:=hr.nO
 have hm:=Jbq h
 have hb:=Ja6 hr hm
 simp only[Prod.eta]
 refine⟨⟨by omega,h,hr,hm⟩,⟨by decide,fun x hx=> ?_⟩,rfl⟩
 have b1:=hb.hours
 have b2:=hb.sent
 have b3:=hb.got
 have b4:=hb.money
 have b5:=hb.fine
 simp only[List.mem_cons,List.not_mem_nil,or_false] at hx
 rcases hx with rfl|rfl|rfl|rfl|rfl<;>omega
abbrev K21:=K22.add Knt
def Jc9:List Gap→List ByteArray→List ByteArray
 |[],o=>o
 |g::l,o=>Jc9 l (bif decide ((o.length:Int)<512) then o++[g.1,Vk g.2] else o)
def Jc6:Reg→ByteArray→List ByteArray:=fun(tk,_,_,O,M,_) _=>Jc9 (Ko M tk O) []
def Ka6:Con:=cQ (fun r _=>[Jl r]) Jc6
abbrev J0p (L:List Gap):Ann:={X:=Nat×List ByteArray,σ:=fun(k,o)=>⟨2,[(5, .one (.sl 1)),(11, .one (.sl 0)),(12, .one (.int .i64 L.length)),(13, .one (.int .i64 k))],[(0, .own 200 J3t L),(1, .own 9 .str o)]⟩,inv:=fun(k,o)=>k≤L.length∧o.length≤600∧Jc9 (L.drop k) o=Jc9 L [],mu:=fun(k,_)=>L.length-k}
theorem Jli {M:List Met} {u:Int} {x:Ord}:∀(n:Nat) (h:Int),(L0 M u x h n).length≤n
 |0,_=>Nat.le_refl _
 |n+1,h=>by
  have:=Jli (M:=M) (u:=u) (x:=x) n (h+1)
  unfold L0
  rw[List.length_append]
  cases Jr x h&&(decide (h<u)&&decide (Kz M x.1 h<0))<;>simp only[cond_true,cond_false,List.length_singleton,List.length_nil]<;>omega
theorem Jlg {S:List Sta} {M:List Met} {u:Int}:∀{O:List Ord},(∀x∈O,Jcd S x)→(Ko M u O).length≤48*O.length
 |[],_=>Nat.le_refl _
 |x::l,h=>by
  have h1:=Jlg (M:=M) (u:=u) (O:=l) fun y hy=>h y (List.mem_cons_of_mem _ hy)
  have h2:=Jli (M:=M) (u:=u) (x:=x) (x.2.2.2.1.2-x.2.2.2.1.1).toNat x.2.2.2.1.1
  have h3:=Jor (h x (List.mem_cons_self ..))
  unfold Ur at h3
  unfold Ko Jur
  rw[List.length_append,List.length_cons]
  omega
theorem Jpd {M:List Met} {u:Int} {x:Ord}:∀(n:Nat) (h:Int),∀g∈L0 M u x h n,h≤g.2∧g.2<h+n
 |0,_,g,hg=>by cases hg
 | n + 1, h, g, hg => by
  unfold L0 at hg
  rcases List.mem_append.1 hg with hg|hg
  ·cases hb:Jr x h&&(decide (h<u)&&decide (Kz M x.1 h<0)) with
   |false=>rw[hb] at hg;cases hg
   |true=>
    rw[hb,cond_true] at hg
    rw[List.mem_singleton.1 hg]
    constructor<;>dsimp only<;>omega
  ·have:=Jpd n (h+1) g hg
   omega
theorem Ji8 {S:List Sta} {M:List Met} {u:Int}:∀{O:List Ord},(∀x∈O,Jcd S x)→∀g∈Ko M u O,0≤g.2∧g.2≤999999999
 |[],_,g,hg=>by cases hg
 | x :: l, h, g, hg => by
  unfold Ko at hg
  rcases List.mem_append.1 hg with hg|hg
  ·have hs:=(h x (List.mem_cons_self ..)).span
   have h1:=hs.lo
   have h2:=hs.mid
   have h3:=hs.hi
   have:=Jpd _ _ g hg
   omega
  ·exact Ji8 (fun y hy=>h y (List.mem_cons_of_mem _ hy)) g hg
def Khp (a:Nat×Ls) (b:List Met) (c:Int) (d:List Ord):=a.1≤List.length (Ko b c d)∧List.length a.2≤600∧Jc9 (List.drop a.1 (Ko b c d)) a.2=Jc9 (Ko b c d) []
def Kum (a:Nat×Ls) (b:List Met) (c:Int) (d:List Ord) (e:Nat×Ls):=Khp a b c d∧List.length (Ko b c d)-a.1<List.length (Ko b c d)-e.1
theorem Knq:Ok Tryz.prog 200 Ka6:=okW K21 Tryz.f200 (fun xx=>Xr (J0p (Ko xx.1.2.2.2.2.1 xx.1.1 xx.1.2.2.2.1))) fun xx=>by
 obtain⟨⟨(tk:Int),(st:Int),(S:List Sta),(O:List Ord),(M:List Met),(X:List Out),(Q:List Per)⟩,(s:ByteArray),_⟩:=xx
 refine(by kernel_rfl:(Jw tk st S O M X Q→Jw tk st S O M X Q∧∃(x:Nat×List ByteArray),Si (Ln (Ko M tk O)) (0=Nc x.1∧Sf (Ko M tk O) (List.length x.2=0))∧Khp x M tk O∧∀(x:Nat×List ByteArray),Khp x M tk O→Br (decide (Nc x.1<Ln (Ko M tk O))) (Tw (Bd (Nc x.1) (Ln (Ko M tk O)))∧Br (decide (Ln x.2<512)) ((Iw (List.getD (Ko M tk O) x.1 (B0,0)).2∧(List.length x.2+2)*16≤140737488355328)∧Iw (Nc x.1+1)∧∃(y:Nat×List ByteArray),Si (Ln (Ko M tk O)) (Nc x.1+1=Nc y.1∧Sf (Ko M tk O) (x.2++[(List.getD (Ko M tk O) x.1 (B0,0)).1,Vk (List.getD (Ko M tk O) x.1 (B0,0)).2]=y.2))∧Kum y M tk O x) (Iw (Nc x.1+1)∧∃(y:Nat×List ByteArray),Si (Ln (Ko M tk O)) (Nc x.1+1=Nc y.1∧Sf (Ko M tk O) (x.2=y.2))∧Kum y M tk O x)) (x.2=Jc6 (Z63 tk st S O M X Q) s))=_).mp ?_
 delta Z63 Jw Khp Kum Br Iw Bd Tw Sf Si Ln Nc B0
 intro hr
 have nO:O.length≤32:=hr.nO
 have hL:(Ko M tk O).length≤48*O.length:=Jlg hr.ord
 have hG:∀g∈Ko M tk O,0≤g.2∧g.2≤999999999:=Ji8 hr.ord
 have hq:Jc6 (tk,st,S,O,M,X,Q) s=Jc9 (Ko M tk O) []:=rfl
 rw[hq]
 refine⟨hr,((0:Nat),[]),by(repeat' first|exact rfl|exact⟨⟩|apply And.intro|omega|dsimp only;omega),⟨Nat.zero_le _,Nat.zero_le _,rfl⟩,fun(x:Nat×List ByteArray) hx=>⟨fun hlt=> ?_,fun hlt=> ?_⟩⟩
 ·obtain⟨k,o⟩:=x
  obtain⟨k1,k2,k3⟩:=hx
  have hlt:k<(Ko M tk O).length:=by simpa using hlt
  have hg:=hG _ (Jc (d:=(Ja,0)) hlt)
  dsimp only at k1 k2 k3
  rw[Jq (d:=((Ja,0):Gap)) hlt,Jc9] at k3
  have hz:((({data:={toList:=[]}}:ByteArray),(0:Int)):Gap)=(Ja,0):=rfl
  simp only[hz]
  refine⟨by(repeat' first|apply And.intro|(first|omega|dsimp only;omega)),fun h=>⟨⟨by(repeat' first|apply And.intro|(first|omega|dsimp only;omega)),by(first|omega|dsimp only;omega)⟩,by(repeat' first|apply And.intro|(first|omega|dsimp only;omega)),(k+1,o++[((Ko M tk O).getD k (Ja,0)).1,Vk ((Ko M tk O).getD k (Ja,0)).2]),by(repeat' first|exact rfl|exact⟨⟩|apply And.intro|omega|dsimp only;omega),⟨by(first|omega|dsimp only;omega), ?_, ?_⟩,by(first|omega|dsimp only;omega)⟩,fun h=>⟨by(repeat' first|apply And.intro|(first|omega|dsimp only;omega)),(k+1,o),by(repeat' first|exact rfl|exact⟨⟩|apply And.intro|omega|dsimp only;omega),⟨by(first|omega|dsimp only;omega),k2, ?_⟩,by(first|omega|dsimp only;omega)⟩⟩
  ·have h:=of_decide_eq_true h
   simp only[List.length_append,List.length_cons,List.length_nil]
   omega
  all_goals (rw[h] at k3;exact k3)
 ·obtain⟨k,o⟩:=x
  obtain⟨k1,k2,k3⟩:=hx
  have hlt:¬k<(Ko M tk O).length:=by simpa using hlt
  have e:k=(Ko M tk O).length:=by dsimp only at k1;omega
  rw[e,List.drop_length,Jc9] at k3
  exact k3
abbrev K20:=K21.add Knq
def K51:Con:={args:=[.val true X6, .ref 105 Jm3],ress:=[Bo],owns:=[],pre:=fun _=>[],spec:=fun(x,(tk,_),_)=>(Kp x.2.2.1 tk,())}
theorem Knn:Ok Tryz.prog 203 K51:=okW K20 Tryz.f203 na fun xx=>by
 obtain⟨⟨(n:ByteArray),(f:ByteArray),⟨(a:Int),(b:Int)⟩,(p:Int)⟩,⟨(tk:Int),(st:Int),(S:List Sta),(O:List Ord),(M:List Met),(X:List Out),(Q:List Per)⟩,_⟩:=xx
 refine(by kernel_rfl:(Kp (a,b) tk=Kp (a,b) tk)=_).mp ?_
 rfl
abbrev K2z:=K20.add Knn
def Kbi:Con:={args:=[.val false (.list 188 X6), .fn [(true,X6)] Bo],ress:=[(false, .list 188 X6)],owns:=[true],pre:=fun(l,(q,_),_)=>[l.length≤1000000,∀x∈l,Uq (q (x,()))],spec:=fun(l,(_,f),_)=>(l.filter fun x=>f (x,()),())}
def J28 (a:Out×Unit→Bool) (b:Nat) (c:List Out):=List.filter (fun(x:Out)=>a (x,PUnit.unit)) (List.take b c)
def J6b (a:Nat) (b:List Out) (c:Nat):=a≤List.length b∧Jyf b a c
theorem K4g:Ok Tryz.prog 94 Kbi:=okW K2z Tryz.f94 (fun xx=>Xr (Jn9 188 188 X6 xx.1 true xx.2.1.1 xx.2.1.2)) fun xx=>by
 obtain⟨(l:List Out),⟨(q:Out×Unit→List Prop),(f:Out×Unit→Bool)⟩,_⟩:=xx
 refine(by kernel_rfl:(Z48 l→J20 l q→∃(x:Nat),Si (Ln l) (0=Nc x∧Sf l ((fun(x:Out×PUnit)=>q x)=q∧(fun(x:Out×PUnit)=>f x)=f∧List.length (J28 f x l)=0))∧x≤List.length l∧∀(x:Nat),x≤List.length l→Br (Z93 x l) (Tw (Z14 x l)∧J2v q l x∧Br (Kgw f l x) ((List.length (J28 f x l)+1)*56≤140737488355328∧Z16 x∧∃(y:Nat),Si (Ln l) (Z82 x y∧Sf l ((fun(x:Out×PUnit)=>q x)=q∧(fun(x:Out×PUnit)=>f x)=f∧J28 f x l++[J8b l x]=J28 f y l))∧J6b y l x) (Z16 x∧∃(y:Nat),Si (Ln l) (Z82 x y∧Sf l ((fun(x:Out×PUnit)=>q x)=q∧(fun(x:Out×PUnit)=>f x)=f∧J28 f x l=J28 f y l))∧J6b y l x)) (J28 f x l=List.filter (fun(x:Out)=>f (x,PUnit.unit)) l))=_).mp ?_
 delta Z14 Z16 Z48 Z82 Z93 Jdd Jyf J28 J00 J0z J23 J6b J20 J8b J2w Kgw J2v Br Iw Bd Tw Sf Si Ln Nc B0 E2
 intro hb hq
 refine⟨(0:Nat),⟨rfl,rfl,rfl,rfl,rfl,by simp⟩,Nat.zero_le _,fun(k:Nat) hk=>⟨fun h=> ?_,fun h=> ?_⟩⟩
 ·have hlt:k<l.length:=by simpa using h
  have hf:=Jfk (p:=fun x=>f (x,())) hk
  have ht:=U5 (d:=Jbd) hlt
  refine⟨by omega,hq (l.getD k Jbd) (Jc hlt),fun h1=> ?_,fun h1=> ?_⟩
  ·have h1:f (l.getD k Jbd,())=true:=h1
   refine⟨by show((List.filter (fun x=>f (x,())) (List.take k l)).length+1)*56≤_;omega,by omega,(k+1:Nat),⟨rfl,by simp,rfl,rfl,rfl, ?_⟩,by omega,by omega⟩
   rw[←ht,List.filter_append,List.filter_cons,if_pos h1];rfl
  ·have h1:f (l.getD k Jbd,())=false:=h1
   refine⟨by omega,(k+1:Nat),⟨rfl,by simp,rfl,rfl,rfl, ?_⟩,by omega,by omega⟩
   rw[←ht,List.filter_append,List.filter_cons,if_neg (by rw[h1];decide)];simp
 ·have hlt:¬k<l.length:=by simpa using h
  rw[List.take_of_length_le (by omega)]
abbrev K2y:=K2z.add K4g
def Kbc:Con:={args:=[.val false (.list 188 X6), .fn [(true,X6)] tS],ress:=[(false, .list 9 .str)],owns:=[true],pre:=fun(l,(q,_),_)=>[l.length≤1000000,∀x∈l,Uq (q (x,()))],spec:=fun(l,(_,f),_)=>(l.map fun x=>f (x,()),())}
def J89 (a:Out×Unit→Bt) (b:Nat) (c:List Out):=List.map (fun(x:Out)=>a (x,PUnit.unit)) (List.take b c)
theorem Kno:Ok Tryz.prog 202 Kbc:=okW K2y Tryz.f202 (fun xx=>Xr (Jba 188 9 X6 xx.1 tS true xx.2.1.1 xx.2.1.2)) fun xx=>by
 obtain⟨(l:List Out),⟨(q:Out×Unit→List Prop),(f:Out×Unit→ByteArray)⟩,_⟩:=xx
 refine(by kernel_rfl:(Z48 l→J20 l q→∃(x:Nat),Si (Ln l) (0=Nc x∧Sf l ((fun(x:Out×PUnit)=>q x)=q∧(fun(x:Out×PUnit)=>f x)=f∧List.length (J89 f x l)=0))∧x≤List.length l∧∀(x:Nat),x≤List.length l→Br (Z93 x l) (Tw (Z14 x l)∧(J2v q l x∧(List.length (J89 f x l)+1)*16≤140737488355328)∧Z16 x∧∃(y:Nat),Si (Ln l) (Z82 x y∧Sf l ((fun(x:Out×PUnit)=>q x)=q∧(fun(x:Out×PUnit)=>f x)=f∧J89 f x l++[f (J2w l x)]=J89 f y l))∧J6b y l x) (J89 f x l=List.map (fun(x:Out)=>f (x,PUnit.unit)) l))=_).mp ?_
 delta Z14 Z16 Z48 Z82 Z93 Jdd Jyf J00 J89 J0z J23 J6b J20 J8b J2w J2v Br Iw Bd Tw Sf Si Ln Nc B0 E2
 intro hb hq
 refine⟨(0:Nat),⟨rfl,rfl,rfl,rfl,rfl,by simp⟩,Nat.zero_le _,fun(k:Nat) hk=>⟨fun h=> ?_,fun h=> ?_⟩⟩
 ·have hlt:k<l.length:=by simpa using h
  refine⟨by omega,⟨hq (l.getD k Jbd) (Jc hlt),by simp only[List.length_map,List.length_take];omega⟩,by omega,(k+1:Nat),⟨rfl,by simp,rfl,rfl,rfl, ?_⟩,by omega,by omega⟩
  rw[←U5 (d:=Jbd) hlt,List.map_append];rfl
 ·have hlt:¬k<l.length:=by simpa using h
  rw[List.take_of_length_le (by omega)]
abbrev K2x:=K2y.add Kno
def Kbe:Con:={args:=[.val false (.list 235 Zy), .fn [(true,Zy)] tS],ress:=[(false, .list 9 .str)],owns:=[true],pre:=fun(l,(q,_),_)=>[l.length≤1000000,∀x∈l,Uq (q (x,()))],spec:=fun(l,(_,f),_)=>(l.map fun x=>f (x,()),())}
def J9a (a:Per×Unit→Bt) (b:Nat) (c:List Per):=List.map (fun(x:Per)=>a (x,PUnit.unit)) (List.take b c)
theorem Knk:Ok Tryz.prog 206 Kbe:=okW K2x Tryz.f206 (fun xx=>Xr (Jba 235 9 Zy xx.1 tS true xx.2.1.1 xx.2.1.2)) fun xx=>by
 obtain⟨(l:List Per),⟨(q:Per×Unit→List Prop),(f:Per×Unit→ByteArray)⟩,_⟩:=xx
 refine(by kernel_rfl:(Z52 l→J8t l q→∃(x:Nat),Si (Ln l) (0=Nc x∧Sf l ((fun(x:Per×PUnit)=>q x)=q∧(fun(x:Per×PUnit)=>f x)=f∧List.length (J9a f x l)=0))∧x≤List.length l∧∀(x:Nat),x≤List.length l→Br (Z91 x l) (Tw (Bd (Nc x) (Ln l))∧(J8q q l x∧(List.length (J9a f x l)+1)*16≤140737488355328)∧Z16 x∧∃(y:Nat),Si (Ln l) (Z82 x y∧Sf l ((fun(x:Per×PUnit)=>q x)=q∧(fun(x:Per×PUnit)=>f x)=f∧J9a f x l++[f (J8r l x)]=J9a f y l))∧Kfc y l x) (J9a f x l=List.map (fun(x:Per)=>f (x,PUnit.unit)) l))=_).mp ?_
 delta Z16 Z52 Z82 Z91 J3c J03 J9a Kfc J8t Key J8r J8q Br Iw Bd Tw Sf Si Ln Nc B0 E2
 intro hb hq
 refine⟨(0:Nat),⟨rfl,rfl,rfl,rfl,rfl,by simp⟩,Nat.zero_le _,fun(k:Nat) hk=>⟨fun h=> ?_,fun h=> ?_⟩⟩
 ·have hlt:k<l.length:=by simpa using h
  refine⟨by omega,⟨hq (l.getD k Jix) (Jc hlt),by simp only[List.length_map,List.length_take];omega⟩,by omega,(k+1:Nat),⟨rfl,by simp,rfl,rfl,rfl, ?_⟩,by omega,by omega⟩
  rw[←U5 (d:=Jix) hlt,List.map_append];rfl
 ·have hlt:¬k<l.length:=by simpa using h
  rw[List.take_of_length_le (by omega)]
abbrev K2w:=K2x.add Knk
def Jsr:Reg→ByteArray→List ByteArray:=fun(tk,_,_,_,_,X,_) _=>(X.filter fun x=>Kp x.2.2.1 tk).map fun x=>x.1
def Kqi:Con:=cQ (fun r _=>[Jl r]) Jsr
theorem Knp:Ok Tryz.prog 201 Kqi:=okW K2w Tryz.f201 na fun xx=>by
 obtain⟨⟨(tk:Int),(st:Int),(S:List Sta),(O:List Ord),(M:List Met),(X:List Out),(Q:List Per)⟩,(s:ByteArray),_⟩:=xx
 refine(by kernel_rfl:(Jw tk st S O M X Q→(Z48 X∧Kk8 X∧List.length (List.filter (fun(x:Out)=>Kp x.2.2.1 tk) X)≤1000000∧∀(x:Out),x∈List.filter (fun(x:Out)=>Kp x.2.2.1 tk) X→True)∧List.map (fun(x:Out)=>x.1) (List.filter (fun(x:Out)=>Kp x.2.2.1 tk) X)=Jsr (Z63 tk st S O M X Q) s)=_).mp ?_
 delta Z48 Z63 Jw Kk8
 intro hr
 have nX:X.length≤16:=hr.nX
 have:=List.length_filter_le (fun x:Out=>Kp x.2.2.1 tk) X
 exact⟨⟨by omega,fun _ _=>trivial,Nat.le_trans this (by omega),fun _ _=>trivial⟩,rfl⟩
abbrev K2v:=K2w.add Knp
def Jsq:Reg→ByteArray→List ByteArray:=fun(_,_,_,_,_,_,Q) _=>(Lz Q).map fun x=>x.1
def Kqh:Con:=cQ (fun r _=>[Jl r]) Jsq
theorem Knl:Ok Tryz.prog 205 Kqh:=okW K2v Tryz.f205 na fun xx=>by
 obtain⟨⟨(tk:Int),(st:Int),(S:List Sta),(O:List Ord),(M:List Met),(X:List Out),(Q:List Per)⟩,(s:ByteArray),_⟩:=xx
 refine(by kernel_rfl:(Jw tk st S O M X Q→Kht tk st S O M X Q∧List.map (fun(x:Per)=>x.1) (Lz Q)=Jsq (Z63 tk st S O M X Q) s)=_).mp ?_
 delta Z63 Jw Kht
 intro hr
 have nQ:Q.length≤16:=hr.nQ
 have:=Jdm (Q:=Q)
 exact⟨⟨hr,by omega,fun _ _=>trivial⟩,rfl⟩
abbrev K2u:=K2v.add Knl
def Jek:Reg→ByteArray→List ByteArray:=fun(_,st,_) _=>[Vk st]
def Ka4:Con:=cQ (fun r _=>[Jl r]) Jek
theorem Knh:Ok Tryz.prog 209 Ka4:=okW K2u Tryz.f209 na fun xx=>by
 obtain⟨⟨(tk:Int),(st:Int),(S:List Sta),(O:List Ord),(M:List Met),(X:List Out),(Q:List Per)⟩,(s:ByteArray),_⟩:=xx
 refine(by kernel_rfl:(Jw tk st S O M X Q→Iw st∧[Vk st]=Jek (Z63 tk st S O M X Q) s)=_).mp ?_
 delta Z63 Jw Iw
 intro hr
 have h1:0≤st∧st≤tk:=hr.st
 have h2:0≤tk∧tk≤999999999:=hr.tk
 exact⟨⟨by omega,by omega⟩,rfl⟩
abbrev K1f:=K2u.add Knh
end Go.Proofs.YtcibbcfiemeoiaaGreatDoor
namespace Go.Proofs.Tryz
open Go.Proofs.YtcibbcfiemeoiaaGreatDoor
def questU:List (ByteArray×Bool×Int×Option Nat):=[(⟨⟨[98,97,108,97,110,99,101]⟩⟩,true,0,some 195),(⟨⟨[114,97,116,101]⟩⟩,true,0,some 196),(⟨⟨[98,105,108,108]⟩⟩,true,1,some 197),(⟨⟨[109,105,115,115,105,110,103]⟩⟩,false,1,some 200),(⟨⟨[111,117,116,97,103,101,115]⟩⟩,false,2,some 201),(⟨⟨[112,101,114,109,105,116,115]⟩⟩,false,3,some 205),(⟨⟨[115,101,116,116,108,101,100]⟩⟩,false,0,some 209)]
end Go.Proofs.Tryz
namespace Go.Proofs.YtcibbcfiemeoiaaGreatDoor
open Go.Sx
set_option maxHeartbeats 20000000
abbrev Ug:ByteArray:=⟨⟨[98,97,108,97,110,99,101]⟩⟩
abbrev Hr:ByteArray:=⟨⟨[114,97,116,101]⟩⟩
abbrev Hs:ByteArray:=⟨⟨[98,105,108,108]⟩⟩
abbrev K9:ByteArray:=⟨⟨[109,105,115,115,105,110,103]⟩⟩
abbrev Uf:ByteArray:=⟨⟨[111,117,116,97,103,101,115]⟩⟩
abbrev Ue:ByteArray:=⟨⟨[112,101,114,109,105,116,115]⟩⟩
abbrev Ud:ByteArray:=⟨⟨[115,101,116,116,108,101,100]⟩⟩
structure NmR (r:Reg):Prop where
 o:∀x∈r.2.2.2.1,x.1.size≤24
 x:∀x∈r.2.2.2.2.2.1,x.1.size≤24
 q:∀x∈r.2.2.2.2.2.2,x.1.size≤24
def D5 (h:Kn):Prop:=∀r∈h.2.2,NmR r
theorem J39 {e:Ev} (h:Jb e=0) (i:Nat):(e.2.2.1.getD i Ja).size≤24:=by
 by_cases hi:i<e.2.2.1.length
 ·exact Jpa ((Uo h).name _ (Jc hi))
 ·rw[List.getD_eq_getElem?_getD,List.getElem?_eq_none (by omega)]
  decide
theorem Jaw {α:Type} {p:α→Prop} {l:List α} {d:α} (h:∀x∈l,p x) (hd:p d) (i:Nat):p (l.getD i d):=by
 by_cases hi:i<l.length
 ·exact h _ (Jc hi)
 ·rw[List.getD_eq_getElem?_getD,List.getElem?_eq_none (by omega)]
  exact hd
theorem J3p {r:Reg} {e:Ev} (hr:NmR r) (hc:Jb e=0):NmR (Ju r e):=by
 have hn:=J39 hc
 obtain⟨tk,st,S,O,M,X,Q⟩:=r
 obtain⟨n,k,ns,vs,tx⟩:=e
 have ho:∀x∈O,x.1.size≤24:=hr.o
 have hx:∀x∈X,x.1.size≤24:=hr.x
 have hq:∀x∈Q,x.1.size≤24:=hr.q
 have hO:∀s,(X1 O s).1.size≤24:=fun s=>Jaw (p:=fun x:Ord=>x.1.size≤24) ho (by decide) _
 have hX:∀s,(Ly X s).1.size≤24:=fun s=>Jaw (p:=fun x:Out=>x.1.size≤24) hx (by decide) _
 have hQ:∀s,(Jj5 Q s).1.size≤24:=fun s=>Jaw (p:=fun x:Per=>x.1.size≤24) hq (by decide) _
 unfold Ju doS
 split
 all_goals refine⟨fun y hy=> ?_,fun y hy=> ?_,fun y hy=> ?_⟩
 all_goals first|exact ho y hy|exact hx y hy|exact hq y hy|(rcases Yj hy with h|h;(first|exact ho y h|exact hx y h|exact hq y h);rw[h];exact hn 0)|(rcases Jbr hy with h|h;rw[h];(first|exact hO _|exact hX _|exact hQ _);(first|exact ho y h|exact hx y h|exact hq y h))
theorem Krd {h:Kn} {e:Ev} (hN:D5 h) (ha:Up h e=0):D5 (Dv h e):=by
 obtain⟨hc,hacc⟩:=add_zero ha
 obtain⟨E,C,G⟩:=h
 have h0:NmR (Kd G):=by
  unfold Kd
  exact Jaw (p:=NmR) hN ⟨fun x h=>(by cases h),fun x h=>(by cases h),fun x h=>(by cases h)⟩ _
 cases hk:e.2.1.toList==J0.toList with
 |true=>
  unfold Dv
  rw[hk,cond_true]
  exact fun r hr=>hN r (List.mem_of_mem_take hr)
 |false=>
  unfold Dv
  rw[hk,cond_false]
  intro r hr
  rcases Yj hr with hr|rfl
  ·exact hN r hr
  ·exact J3p h0 hc
theorem Jew {h:Kn} (hN:D5 h):NmR (Kd h.2.2):=by
 unfold Kd
 exact Jaw (p:=NmR) hN ⟨fun x h=>(by cases h),fun x h=>(by cases h),fun x h=>(by cases h)⟩ _
theorem J4m:D5 Zz:=fun r h=>by cases h
abbrev K1l:Sch:= .prod .bool (.prod sI .fnc)
abbrev Qst:=Bool×Int×Option Nat
def Jej:List (ByteArray×Qst):=Tryz.questU
def J2m:Jmf:={kT:=9,gk:=false,gv:=true,ks:= .str,vs:=K1l,l:=Jej}
theorem Kmf:wpFM Tryz.prog K1f.g (na ()) (fun _=>na ()) (Sx.look ([]:List (Nat×Func))) Tryz.f118 J2m:=by
 refine(by kernel_rfl:(Khi∧Sf true ([(Ug,true,0,some 195),(Hr,true,0,some 196),(Hs,true,1,some 197),(K9,false,1,some 200),(Uf,false,2,some 201),(Ue,false,3,some 205),(Ud,false,0,some 209)]=Jej))=_).mp ?_
 delta Khi Sf Lb Ug Hs K9 Uf Ue Hr Ud
 exact⟨⟨fun _ _=>rfl,fun _=>rfl⟩,rfl,rfl⟩
theorem J36:Ok Tryz.prog 118 (Jmf.con J2m):=J19 (Jlc mixed K1f.ok (by kernel_rfl) (by kernel_rfl) (U1 (l:=([]:List (Nat×Func))) (by simp)) (na ()) (fun _=>na ()) Kmf)
abbrev K7b:=K1f.add J36
def J40:Jmf:={kT:=9,gk:=false,gv:=true,ks:= .str,vs:=K1l,l:=Tryz.questU}
theorem Kag:Ok Tryz.prog 118 (Jmf.con J40):=J36
abbrev Jyn:=K7b.add Kag
def Jcn (k:ByteArray):Qst:=(Um .str k Jej).getD (false,0,none)
def Jha (k:ByteArray):Bool:=(Um .str k Jej).isSome
def Kpz:ByteArray:=⟨⟨[110,111,110,101]⟩⟩
def Jmh (l:List ByteArray):ByteArray:=bif (l.length:Int)==0 then Kpz else Vt l ⟨⟨[32]⟩⟩
def Jgt (named:Bool) (what:Int) (f:Reg→ByteArray→List ByteArray) (r:Reg) (ws:List ByteArray):ByteArray×Int:=
 bif named then(bif (ws.length:Int)==2 then(bif (ws.getD 1 Ja).toList==Ja.toList then(Ja,25) else bif !Vi r what (ws.getD 1 Ja) then(Ja,10) else(Jmh (f r (ws.getD 1 Ja)),0)) else(Ja,25))
 else bif (ws.length:Int) !=1 then(Ja,25) else(Jmh (f r Ja),0)
def Za (r:Reg) (ws:List ByteArray):ByteArray×Int:=match(Jcn (ws.getD 0 Ja)).2.2 with
 |some 195=>Jgt true 0 Jud r ws
 |some 196=>Jgt true 0 Jel r ws
 |some 197=>Jgt true 1 Jem r ws
 |some 200=>Jgt false 1 Jc6 r ws
 |some 201=>Jgt false 2 Jsr r ws
 |some 205=>Jgt false 3 Jsq r ws
 |some 209=>Jgt false 0 Jek r ws
 |_=>(Ja,0)
structure Jf4 (h:Kn) (ws:List ByteArray):Prop where
 hist:Kf h
 nm:D5 h
 len:1≤ws.length
 key:Jha (ws.getD 0 Ja)=true
 max:ws.length≤1000000
 siz:∀w∈ws,w.size≤1000000
def J0e:Xx:={T? :=none,s:=Jis,args:=[.val false (.list 9 .str)],ress:=[tS,I],pre:=fun h (ws,_)=>[Jf4 h ws],spec:=fun h (ws,_)=>((Za (Kd h.2.2) ws).1,(Za (Kd h.2.2) ws).2,()),post:=fun h _=>h}
def SmL (l:List ByteArray):Prop:=l.length≤2000∧∀w∈l,w.size≤40
theorem K4 {l:List ByteArray} (h:SmL l):l.length≤1000000∧(Lib.join (l.map fun x=>x.data.toList) [32]).length≤140737488355328:=by
 refine⟨by have:=h.1;omega,Nat.le_trans (Jjh rfl) ?_⟩
 have:∀l:List ByteArray,(∀w∈l,w.size≤40)→((l.map fun x=>x.data.toList).map fun x=>x.length+1).sum≤41*l.length:=by
  intro l
  induction l with
  |nil=>intro _;simp
  |cons x r ih=>
   intro h
   have h1:=ih fun w hw=>h w (List.mem_cons_of_mem _ hw)
   have h2:x.data.toList.length≤40:=h x (List.mem_cons_self ..)
   simp only[List.map_cons,List.sum_cons,List.length_cons]
   omega
 have h1:=this l h.2
 have h2:=h.1
 omega
theorem Jil {l:List Int} (h:l.length≤2000) (hb:∀n∈l,-9223372036854775808≤n∧n≤9223372036854775807):SmL (l.map Vk):=by
 refine⟨by simpa using h,fun w hw=> ?_⟩
 obtain⟨n,hn,rfl⟩:=List.mem_map.1 hw
 exact Jat n (hb n hn).1 (hb n hn).2
theorem Jov {r:Reg} (hr:Jl r) (s:ByteArray):SmL (Jud r s):=by
 obtain⟨tk,st,S,O,M,X,Q⟩:=r
 have hb:=Jwm (s:=s) hr
 exact Jil (l:=[Jwn st S O M s]) (by simp) fun n hn=>by rw[List.mem_singleton.1 hn];omega
theorem Jin {r:Reg} (hr:Jl r) {s:ByteArray} (h:0≤Jy r.2.2.1 s):SmL (Jel r s):=by
 obtain⟨tk,st,S,O,M,X,Q⟩:=r
 have hs:0≤(Hm S s).2.2∧(Hm S s).2.2≤1000:=(Jij hr.sta h).pri
 exact Jil (l:=[(Hm S s).2.2]) (by simp) fun n hn=>by rw[List.mem_singleton.1 hn];omega
theorem Jip {r:Reg} (hr:Jl r) {s:ByteArray} (h:0≤Kw r.2.2.2.1 s):SmL (Jem r s):=by
 obtain⟨tk,st,S,O,M,X,Q⟩:=r
 have hb:=Ja6 hr (Jbq h)
 have b1:=hb.hours
 have b2:=hb.sent
 have b3:=hb.got
 have b4:=hb.money
 have b5:=hb.fine
 refine Jil (l:=[(Ut st M (X1 O s)).2.1,(Ut st M (X1 O s)).2.2.1,(Ut st M (X1 O s)).2.2.2.1,(Ut st M (X1 O s)).2.2.2.2.1,(Ut st M (X1 O s)).2.2.2.2.2]) (by simp) fun n hn=> ?_
 simp only[List.mem_cons,List.not_mem_nil,or_false] at hn
 rcases hn with rfl|rfl|rfl|rfl|rfl<;>omega
theorem Ji7:∀{l:List Gap} {o:List ByteArray},(∀g∈l,g.1.size≤40∧0≤g.2∧g.2≤999999999)→o.length≤514→(∀w∈o,w.size≤40)→SmL (Jc9 l o)
 |[],o,_,h1,h2=>⟨by unfold Jc9;omega,h2⟩
 | g :: l, o, h, h1, h2 => by
  unfold Jc9
  have hg:=h g (List.mem_cons_self ..)
  have h':∀x∈l,x.1.size≤40∧0≤x.2∧x.2≤999999999:=fun x hx=>h x (List.mem_cons_of_mem _ hx)
  cases hd:decide ((o.length:Int)<512) with
  |false=>exact Ji7 h' h1 h2
  |true=>
   have hd:=of_decide_eq_true hd
   rw[cond_true]
   refine Ji7 h' (by rw[List.length_append,List.length_cons,List.length_cons,List.length_nil];omega) fun w hw=> ?_
   simp only[List.mem_append,List.mem_cons,List.not_mem_nil,or_false] at hw
   rcases hw with hw|rfl|rfl
   ·exact h2 w hw
   ·exact hg.1
   ·exact Jat _ (by omega) (by omega)
theorem Jpc {M:List Met} {u:Int} {x:Ord}:∀(n:Nat) (h:Int),∀g∈L0 M u x h n,g.1=x.1
 |0,_,g,hg=>by cases hg
 | n + 1, h, g, hg => by
  unfold L0 at hg
  rcases List.mem_append.1 hg with hg|hg
  ·cases hb:Jr x h&&(decide (h<u)&&decide (Kz M x.1 h<0)) with
   |false=>rw[hb] at hg;cases hg
   |true=>
    rw[hb,cond_true] at hg
    rw[List.mem_singleton.1 hg]
  ·exact Jpc n (h+1) g hg
theorem Jpb {M:List Met} {u:Int}:∀{O:List Ord},(∀x∈O,x.1.size≤24)→∀g∈Ko M u O,g.1.size≤24
 |[],_,g,hg=>by cases hg
 | x :: l, h, g, hg => by
  unfold Ko at hg
  rcases List.mem_append.1 hg with hg|hg
  ·rw[Jpc _ _ g hg]
   exact h x (List.mem_cons_self ..)
  ·exact Jpb (fun y hy=>h y (List.mem_cons_of_mem _ hy)) g hg
theorem Jio {r:Reg} (hr:Jl r) (hN:NmR r) (s:ByteArray):SmL (Jc6 r s):=by
 obtain⟨tk,st,S,O,M,X,Q⟩:=r
 refine Ji7 (fun g hg=>⟨?_,Ji8 hr.ord g hg⟩) (by decide) fun w hw=>by cases hw
 have:=Jpb hN.o g hg
 omega
theorem Jou {r:Reg} (hr:Jl r) (hN:NmR r) (s:ByteArray):SmL (Jsr r s):=by
 obtain⟨tk,st,S,O,M,X,Q⟩:=r
 have nX:X.length≤16:=hr.nX
 have:=List.length_filter_le (fun x:Out=>Kp x.2.2.1 tk) X
 refine⟨by unfold Jsr;rw[List.length_map];omega,fun w hw=> ?_⟩
 obtain⟨x,hx,rfl⟩:=List.mem_map.1 hw
 have:=hN.x x (List.mem_filter.1 hx).1
 omega
theorem Jot {r:Reg} (hr:Jl r) (hN:NmR r) (s:ByteArray):SmL (Jsq r s):=by
 obtain⟨tk,st,S,O,M,X,Q⟩:=r
 have nQ:Q.length≤16:=hr.nQ
 have:=Jdm (Q:=Q)
 refine⟨by unfold Jsq;rw[List.length_map];omega,fun w hw=> ?_⟩
 obtain⟨x,hx,rfl⟩:=List.mem_map.1 hw
 have:=hN.q x (List.mem_filter.1 hx).1
 omega
theorem Jim {r:Reg} (hr:Jl r) (s:ByteArray):SmL (Jek r s):=by
 obtain⟨tk,st,S,O,M,X,Q⟩:=r
 have h1:0≤st∧st≤tk:=hr.st
 have h2:0≤tk∧tk≤999999999:=hr.tk
 exact Jil (l:=[st]) (by simp) fun n hn=>by rw[List.mem_singleton.1 hn];omega
theorem Jev (G:List Reg):(decide (0<(G.length:Int))=true∧Kd G=G.getD ((G.length:Int)-1).toNat U0)∨(decide (0<(G.length:Int))=false∧Kd G=U0):=by
 cases h:decide (0<(G.length:Int)) with
 |true=>exact .inl ⟨rfl,by unfold Kd;congr 1;omega⟩
 |false=>exact .inr ⟨rfl,Kl h⟩
theorem Jrl:Jcn Ug=(true,0,some 195):=by kernel_rfl
theorem Jn6 (r:Reg) (ws:List ByteArray):Za r (Ug::ws)=Jgt true 0 Jud r (Ug::ws):=by
 have:(Ug::ws).getD 0 Ja=Ug:=rfl
 unfold Za
 rw[this,Jrl]
 rfl
def Z72 (a:List Reg) (b:Ls):=(Za (Kd a) (Ug::b)).1
def Klj (a:Ls):=Ln (Ug::a)==2
def J9n (a:List Reg) (b:Ls):=0=(Za (Kd a) (Ug::b)).2
def J9j:=1≤1000000∧1≤140737488355328
def Jqf (a:Ls):= !Lb (Z83 a) B0
def Jmi:=ByteArray.mk (Array.mk [110,111,110,101])
def Kes (a:Ls):=Jud Vw (Z83 a)
def Kdq (a:TypeId) (b c:List Ev) (d:List Reg) (e:Ls):=Sf true (Sf a (Sf (b,c,d) (B0=Z72 d e∧10=(Za (Kd d) (Ug::e)).2)))
def Kvn (a:TypeId) (b c:List Ev) (d:List Reg) (e:Ls):=Sf true (Sf a (Sf (b,c,d) (B0=Z72 d e∧25=(Za (Kd d) (Ug::e)).2)))
def Kde (a:TypeId) (b c:List Ev) (d:List Reg) (e:Ls):=Sf true (Sf a (Sf (b,c,d) (Jmi=Z72 d e∧J9n d e)))
def Kc2 (a:List Reg):=Jud (Yf a) B0
def Kcv (a:List Reg) (b:Ls):=Jud (Yf a) (Z83 b)
def J1r (a:List Reg):=bif true then !Vi (Yf a) 0 B0 else false
theorem Jib (T:TypeId) (E C:List Ev) (G:List Reg) (ws:List ByteArray):wpFO Tryz.prog Jyn.g (na ()) (fun _=>na ()) (Sx.look ([(75,Tryz.f75)]:List (Nat×Func))) Tryz.f119 J0e T (E,C,G) (Ug::ws,()):=by
 refine(by kernel_rfl:(Jf4 (E,C,G) (Ug::ws)→Tw (Bd 0 (Ln (Ug::ws)))∧Br (bif true then Klj ws else false) (Tw (Bd 1 (Ln (Ug::ws)))∧Br (bif !true==bif Klj ws then Jqf ws else false then true else false) (Kvn T E C G ws) (Br (V5 G) (V4 G∧Jdu G∧Br (Jsh G ws) (Kdq T E C G ws) (Y3 G∧Br (Ln (Kcv G ws)==0) (Kde T E C G ws) ((List.length (Kcv G ws)≤1000000∧List.length (Lib.join (List.map (fun(x:ByteArray)=>Z13 x) (Kcv G ws)) [32])≤140737488355328)∧Sf true (Sf T (Sf (E,C,G) (Vt (Kcv G ws) Hp=Z72 G ws∧J9n G ws)))))) (Jdy∧Br (J8g ws) (Kdq T E C G ws) (Yv∧Br (Ln (Kes ws)==0) (Kde T E C G ws) ((List.length (Kes ws)≤1000000∧List.length (Lib.join (List.map (fun(x:ByteArray)=>Z13 x) (Kes ws)) [32])≤140737488355328)∧Sf true (Sf T (Sf (E,C,G) (Vt (Kes ws) Hp=Z72 G ws∧J9n G ws)))))))) (Br (bif !true==bif Klj ws then false else false then true else false) (Kvn T E C G ws) (Br (V5 G) (V4 G∧Jdu G∧Br (J1r G) (Kdq T E C G ws) (Y3 G∧Br (Ln (Kc2 G)==0) (Kde T E C G ws) ((List.length (Kc2 G)≤1000000∧List.length (Lib.join (List.map (fun(x:ByteArray)=>Z13 x) (Kc2 G)) [32])≤140737488355328)∧Sf true (Sf T (Sf (E,C,G) (Vt (Kc2 G) Hp=Z72 G ws∧J9n G ws)))))) (Jdy∧Br true (Kdq T E C G ws) (Yv∧Br false (Kde T E C G ws) (J9j∧Sf true (Sf T (Sf (E,C,G) (Vt (Jud Vw B0) Hp=Z72 G ws∧J9n G ws)))))))))=_).mp ?_
 delta Z13 Z72 Z83 V5 Hp Klj J9n J9j Jqf Jmi L5 V4 Vw Yv Jdy D2 Kes Jae D1 Ho Fp Hn L4 Zx J2z J8g Kdq Kvn Kde Fo Yf Y3 Kc2 Jdu Kcv Jmc J1r Jsh Br Iw Bd Tw Sf Ln Gt B0 Lb E2 Ug
 intro ha
 obtain⟨hh,hn,-,-,hmax,hsz⟩:=ha
 have hr:Jl (Kd G):=X3 hh
 have hN:NmR (Kd G):=Jew hn
 have hG:G.length≤1000:=by have:=hh.nE;have:=hh.nC;have:=hh.nG;dsimp only at*;omega
 rw[Jn6]
 have hbn:({data:={toList:=[]}}:ByteArray)=Ja:=rfl
 have hl:((Ug::ws).length:Int)=(ws.length:Int)+1:=by simp
 have ha1:(Ug::ws).getD 1 Ja=ws.getD 0 Ja:=rfl
 have hz:((0:Int),(0:Int),([]:List Sta),([]:List Ord),([]:List Met),([]:List Out),([]:List Per))=U0:=rfl
 simp only[hbn,hz,hl,Prod.eta,Jgt,ha1]
 rcases Jev G with⟨hd,e0⟩|⟨hd,e0⟩
 ·rw[e0] at hr hN⊢
  have hp:=of_decide_eq_true hd
  rw[hd]
  generalize G.getD ((G.length:Int)-1).toNat U0=r at hr hN⊢
  cases h2:(ws.length:Int)+1==2
  all_goals cases h3:(ws.getD 0 Ja).toList==Ja.toList
  all_goals cases h4:Vi r 0 (ws.getD 0 Ja)
  all_goals cases h5:(((Jud r (ws.getD 0 Ja)).length:Int)==0)
  all_goals simp only[h2,h3,h4,h5,bne,Jmh,Bool.not_true,Bool.not_false,cond_true,cond_false,BEq.rfl,Bool.true_beq,Bool.false_beq,reduceCtorEq,false_implies,forall_const,true_and,and_true,and_self]
  all_goals repeat' apply And.intro
  all_goals first|omega|(have:=eq_of_beq h2;omega)|exact hr|exact(K4 (Jov hr _)).1|exact(K4 (Jov hr _)).2|rfl|(have:=h4;simpa[Vi] using this)|skip
 ·rw[e0] at hr hN⊢
  rw[hd]
  cases h2:(ws.length:Int)+1==2
  all_goals cases h3:(ws.getD 0 Ja).toList==Ja.toList
  all_goals cases h4:Vi U0 0 (ws.getD 0 Ja)
  all_goals cases h5:(((Jud U0 (ws.getD 0 Ja)).length:Int)==0)
  all_goals simp only[h2,h3,h4,h5,bne,Jmh,Bool.not_true,Bool.not_false,cond_true,cond_false,BEq.rfl,Bool.true_beq,Bool.false_beq,reduceCtorEq,false_implies,forall_const,true_and,and_true,and_self]
  all_goals repeat' apply And.intro
  all_goals first|omega|(have:=eq_of_beq h2;omega)|exact hr|exact(K4 (Jov hr _)).1|exact(K4 (Jov hr _)).2|rfl|(have:=h4;simpa[Vi,U0] using this)|exact nomatch (show true=false from h5)|exact nomatch (show false=true from h5)
theorem J30:Jcn Hr=(true,0,some 196):=by kernel_rfl
theorem J0j (r:Reg) (ws:List ByteArray):Za r (Hr::ws)=Jgt true 0 Jel r (Hr::ws):=by
 have:(Hr::ws).getD 0 Ja=Hr:=rfl
 unfold Za
 rw[this,J30]
 rfl
def Z51 (a:List Reg) (b:Ls):=(Za (Kd a) (Hr::b)).1
def Klo (a:Ls):=Ln (Hr::a)==2
def J9t (a:List Reg) (b:Ls):=0=(Za (Kd a) (Hr::b)).2
def Kep (a:Ls):=Jel Vw (Z83 a)
def Kv0 (a:TypeId) (b c:List Ev) (d:List Reg) (e:Ls):=Sf true (Sf a (Sf (b,c,d) (B0=Z51 d e∧25=(Za (Kd d) (Hr::e)).2)))
def Kdu (a:TypeId) (b c:List Ev) (d:List Reg) (e:Ls):=Sf true (Sf a (Sf (b,c,d) (B0=Z51 d e∧10=(Za (Kd d) (Hr::e)).2)))
def Kdh (a:TypeId) (b c:List Ev) (d:List Reg) (e:Ls):=Sf true (Sf a (Sf (b,c,d) (Jmi=Z51 d e∧J9t d e)))
def Kcy (a:List Reg):=Jel (Yf a) B0
def Kcq (a:List Reg) (b:Ls):=Jel (Yf a) (Z83 b)
theorem Jq1 (T:TypeId) (E C:List Ev) (G:List Reg) (ws:List ByteArray):wpFO Tryz.prog Jyn.g (na ()) (fun _=>na ()) (Sx.look ([(75,Tryz.f75)]:List (Nat×Func))) Tryz.f119 J0e T (E,C,G) (Hr::ws,()):=by
 refine(by kernel_rfl:(Jf4 (E,C,G) (Hr::ws)→Tw (Bd 0 (Ln (Hr::ws)))∧Br (bif true then Klo ws else false) (Tw (Bd 1 (Ln (Hr::ws)))∧Br (bif !true==bif Klo ws then Jqf ws else false then true else false) (Kv0 T E C G ws) (Br (V5 G) (V4 G∧Jdu G∧Br (Jsh G ws) (Kdu T E C G ws) ((Y3 G∧0≤Jy (Ho G).1 (Z83 ws))∧Br (Ln (Kcq G ws)==0) (Kdh T E C G ws) ((List.length (Kcq G ws)≤1000000∧List.length (Lib.join (List.map (fun(x:ByteArray)=>Z13 x) (Kcq G ws)) [32])≤140737488355328)∧Sf true (Sf T (Sf (E,C,G) (Vt (Kcq G ws) Hp=Z51 G ws∧J9t G ws)))))) (Jdy∧Br (J8g ws) (Kdu T E C G ws) ((Yv∧0≤Jy [] (Z83 ws))∧Br (Ln (Kep ws)==0) (Kdh T E C G ws) ((List.length (Kep ws)≤1000000∧List.length (Lib.join (List.map (fun(x:ByteArray)=>Z13 x) (Kep ws)) [32])≤140737488355328)∧Sf true (Sf T (Sf (E,C,G) (Vt (Kep ws) Hp=Z51 G ws∧J9t G ws)))))))) (Br (bif !true==bif Klo ws then false else false then true else false) (Kv0 T E C G ws) (Br (V5 G) (V4 G∧Jdu G∧Br (J1r G) (Kdu T E C G ws) ((Y3 G∧0≤Jy (Ho G).1 B0)∧Br (Ln (Kcy G)==0) (Kdh T E C G ws) ((List.length (Kcy G)≤1000000∧List.length (Lib.join (List.map (fun(x:ByteArray)=>Z13 x) (Kcy G)) [32])≤140737488355328)∧Sf true (Sf T (Sf (E,C,G) (Vt (Kcy G) Hp=Z51 G ws∧J9t G ws)))))) (Jdy∧Br true (Kdu T E C G ws) ((Yv∧0≤Jy [] B0)∧Br false (Kdh T E C G ws) (J9j∧Sf true (Sf T (Sf (E,C,G) (Vt (Jel Vw B0) Hp=Z51 G ws∧J9t G ws)))))))))=_).mp ?_
 delta Z13 Z51 Z83 V5 Klo Hp J9t J9j Jqf Jmi L5 V4 Vw Yv Jdy D2 Jae D1 Kep Ho Fp Hn L4 Zx J2z J8g Kv0 Kdu Kdh Fo Yf Y3 Kcy Jdu Kcq Jmc J1r Jsh Br Iw Bd Tw Sf Ln Gt B0 Lb E2 Hr
 intro ha
 obtain⟨hh,hn,-,-,hmax,hsz⟩:=ha
 have hr:Jl (Kd G):=X3 hh
 have hN:NmR (Kd G):=Jew hn
 have hG:G.length≤1000:=by have:=hh.nE;have:=hh.nC;have:=hh.nG;dsimp only at*;omega
 rw[J0j]
 have hbn:({data:={toList:=[]}}:ByteArray)=Ja:=rfl
 have hl:((Hr::ws).length:Int)=(ws.length:Int)+1:=by simp
 have ha1:(Hr::ws).getD 1 Ja=ws.getD 0 Ja:=rfl
 have hz:((0:Int),(0:Int),([]:List Sta),([]:List Ord),([]:List Met),([]:List Out),([]:List Per))=U0:=rfl
 simp only[hbn,hz,hl,Prod.eta,Jgt,ha1]
 rcases Jev G with⟨hd,e0⟩|⟨hd,e0⟩
 ·rw[e0] at hr hN⊢
  have hp:=of_decide_eq_true hd
  rw[hd]
  generalize G.getD ((G.length:Int)-1).toNat U0=r at hr hN⊢
  cases h2:(ws.length:Int)+1==2
  all_goals cases h3:(ws.getD 0 Ja).toList==Ja.toList
  all_goals cases h4:Vi r 0 (ws.getD 0 Ja)
  all_goals cases h5:(((Jel r (ws.getD 0 Ja)).length:Int)==0)
  all_goals simp only[h2,h3,h4,h5,bne,Jmh,Bool.not_true,Bool.not_false,cond_true,cond_false,BEq.rfl,Bool.true_beq,Bool.false_beq,reduceCtorEq,false_implies,forall_const,true_and,and_true,and_self]
  all_goals repeat' apply And.intro
  all_goals first|omega|(have:=eq_of_beq h2;omega)|exact hr|exact(K4 (Jin hr (by have:=h4;simpa[Vi,U0] using this))).1|exact(K4 (Jin hr (by have:=h4;simpa[Vi,U0] using this))).2|rfl|(have:=h4;simpa[Vi] using this)|skip
 ·rw[e0] at hr hN⊢
  rw[hd]
  cases h2:(ws.length:Int)+1==2
  all_goals cases h3:(ws.getD 0 Ja).toList==Ja.toList
  all_goals cases h4:Vi U0 0 (ws.getD 0 Ja)
  all_goals cases h5:(((Jel U0 (ws.getD 0 Ja)).length:Int)==0)
  all_goals simp only[h2,h3,h4,h5,bne,Jmh,Bool.not_true,Bool.not_false,cond_true,cond_false,BEq.rfl,Bool.true_beq,Bool.false_beq,reduceCtorEq,false_implies,forall_const,true_and,and_true,and_self]
  all_goals repeat' apply And.intro
  all_goals first|omega|(have:=eq_of_beq h2;omega)|exact hr|exact(K4 (Jin hr (by have:=h4;simpa[Vi,U0] using this))).1|exact(K4 (Jin hr (by have:=h4;simpa[Vi,U0] using this))).2|rfl|(have:=h4;simpa[Vi,U0] using this)|exact nomatch (show true=false from h5)|exact nomatch (show false=true from h5)
theorem J31:Jcn Hs=(true,1,some 197):=by kernel_rfl
theorem J0k (r:Reg) (ws:List ByteArray):Za r (Hs::ws)=Jgt true 1 Jem r (Hs::ws):=by
 have:(Hs::ws).getD 0 Ja=Hs:=rfl
 unfold Za
 rw[this,J31]
 rfl
def Z44 (a:List Reg) (b:Ls):=(Za (Kd a) (Hs::b)).1
def Kln (a:Ls):=Ln (Hs::a)==2
def J9s (a:List Reg) (b:Ls):=0=(Za (Kd a) (Hs::b)).2
def Kem (a:Ls):=Jem Vw (Z83 a)
def Kdv (a:TypeId) (b c:List Ev) (d:List Reg) (e:Ls):=Sf true (Sf a (Sf (b,c,d) (B0=Z44 d e∧10=(Za (Kd d) (Hs::e)).2)))
def Kvy (a:TypeId) (b c:List Ev) (d:List Reg) (e:Ls):=Sf true (Sf a (Sf (b,c,d) (B0=Z44 d e∧25=(Za (Kd d) (Hs::e)).2)))
def Kdi (a:TypeId) (b c:List Ev) (d:List Reg) (e:Ls):=Sf true (Sf a (Sf (b,c,d) (Jmi=Z44 d e∧J9s d e)))
def Kcx (a:List Reg):=Jem (Yf a) B0
def Kct (a:List Reg) (b:Ls):=Jem (Yf a) (Z83 b)
theorem Jq2 (T:TypeId) (E C:List Ev) (G:List Reg) (ws:List ByteArray):wpFO Tryz.prog Jyn.g (na ()) (fun _=>na ()) (Sx.look ([(75,Tryz.f75)]:List (Nat×Func))) Tryz.f119 J0e T (E,C,G) (Hs::ws,()):=by
 refine(by kernel_rfl:(Jf4 (E,C,G) (Hs::ws)→Tw (Bd 0 (Ln (Hs::ws)))∧Br (bif true then Kln ws else false) (Tw (Bd 1 (Ln (Hs::ws)))∧Br (bif !true==bif Kln ws then Jqf ws else false then true else false) (Kvy T E C G ws) (Br (V5 G) (V4 G∧Jdu G∧Br (Jsi G ws) (Kdv T E C G ws) ((Y3 G∧0≤Kw (Hn G).1 (Z83 ws))∧Br (Ln (Kct G ws)==0) (Kdi T E C G ws) ((List.length (Kct G ws)≤1000000∧List.length (Lib.join (List.map (fun(x:ByteArray)=>Z13 x) (Kct G ws)) [32])≤140737488355328)∧Sf true (Sf T (Sf (E,C,G) (Vt (Kct G ws) Hp=Z44 G ws∧J9s G ws)))))) (Jdy∧Br (J8f ws) (Kdv T E C G ws) ((Yv∧0≤Kw [] (Z83 ws))∧Br (Ln (Kem ws)==0) (Kdi T E C G ws) ((List.length (Kem ws)≤1000000∧List.length (Lib.join (List.map (fun(x:ByteArray)=>Z13 x) (Kem ws)) [32])≤140737488355328)∧Sf true (Sf T (Sf (E,C,G) (Vt (Kem ws) Hp=Z44 G ws∧J9s G ws)))))))) (Br (bif !true==bif Kln ws then false else false then true else false) (Kvy T E C G ws) (Br (V5 G) (V4 G∧Jdu G∧Br (bif true then !Vi (Yf G) 1 B0 else false) (Kdv T E C G ws) ((Y3 G∧0≤Kw (Hn G).1 B0)∧Br (Ln (Kcx G)==0) (Kdi T E C G ws) ((List.length (Kcx G)≤1000000∧List.length (Lib.join (List.map (fun(x:ByteArray)=>Z13 x) (Kcx G)) [32])≤140737488355328)∧Sf true (Sf T (Sf (E,C,G) (Vt (Kcx G) Hp=Z44 G ws∧J9s G ws)))))) (Jdy∧Br true (Kdv T E C G ws) ((Yv∧0≤Kw [] B0)∧Br false (Kdi T E C G ws) ((5≤1000000∧9≤140737488355328)∧Sf true (Sf T (Sf (E,C,G) (Vt (Jem Vw B0) Hp=Z44 G ws∧J9s G ws)))))))))=_).mp ?_
 delta Z13 Z44 Z83 V5 Kln Hp J9s Jqf Jmi L5 V4 Vw Yv Jdy D2 Jae D1 Kem Ho Fp Hn L4 Zx J8l J8f Kdv Kvy Kdi Fo Yf Y3 Kcx Jdu Kct Jsk Jsi Br Iw Bd Tw Sf Ln Gt B0 Lb E2 Hs
 intro ha
 obtain⟨hh,hn,-,-,hmax,hsz⟩:=ha
 have hr:Jl (Kd G):=X3 hh
 have hN:NmR (Kd G):=Jew hn
 have hG:G.length≤1000:=by have:=hh.nE;have:=hh.nC;have:=hh.nG;dsimp only at*;omega
 rw[J0k]
 have hbn:({data:={toList:=[]}}:ByteArray)=Ja:=rfl
 have hl:((Hs::ws).length:Int)=(ws.length:Int)+1:=by simp
 have ha1:(Hs::ws).getD 1 Ja=ws.getD 0 Ja:=rfl
 have hz:((0:Int),(0:Int),([]:List Sta),([]:List Ord),([]:List Met),([]:List Out),([]:List Per))=U0:=rfl
 simp only[hbn,hz,hl,Prod.eta,Jgt,ha1]
 rcases Jev G with⟨hd,e0⟩|⟨hd,e0⟩
 ·rw[e0] at hr hN⊢
  have hp:=of_decide_eq_true hd
  rw[hd]
  generalize G.getD ((G.length:Int)-1).toNat U0=r at hr hN⊢
  cases h2:(ws.length:Int)+1==2
  all_goals cases h3:(ws.getD 0 Ja).toList==Ja.toList
  all_goals cases h4:Vi r 1 (ws.getD 0 Ja)
  all_goals cases h5:(((Jem r (ws.getD 0 Ja)).length:Int)==0)
  all_goals simp only[h2,h3,h4,h5,bne,Jmh,Bool.not_true,Bool.not_false,cond_true,cond_false,BEq.rfl,Bool.true_beq,Bool.false_beq,reduceCtorEq,false_implies,forall_const,true_and,and_true,and_self]
  all_goals repeat' apply And.intro
  all_goals first|omega|(have:=eq_of_beq h2;omega)|exact hr|exact(K4 (Jip hr (by have:=h4;simpa[Vi,U0] using this))).1|exact(K4 (Jip hr (by have:=h4;simpa[Vi,U0] using this))).2|rfl|(have:=h4;simpa[Vi] using this)|skip
 ·rw[e0] at hr hN⊢
  rw[hd]
  cases h2:(ws.length:Int)+1==2
  all_goals cases h3:(ws.getD 0 Ja).toList==Ja.toList
  all_goals cases h4:Vi U0 1 (ws.getD 0 Ja)
  all_goals cases h5:(((Jem U0 (ws.getD 0 Ja)).length:Int)==0)
  all_goals simp only[h2,h3,h4,h5,bne,Jmh,Bool.not_true,Bool.not_false,cond_true,cond_false,BEq.rfl,Bool.true_beq,Bool.false_beq,reduceCtorEq,false_implies,forall_const,true_and,and_true,and_self]
  all_goals repeat' apply And.intro
  all_goals first|omega|(have:=eq_of_beq h2;omega)|exact hr|exact(K4 (Jip hr (by have:=h4;simpa[Vi,U0] using this))).1|exact(K4 (Jip hr (by have:=h4;simpa[Vi,U0] using this))).2|rfl|(have:=h4;simpa[Vi,U0] using this)|exact nomatch (show true=false from h5)|exact nomatch (show false=true from h5)
theorem Jrk:Jcn K9=(false,1,some 200):=by kernel_rfl
theorem Jn5 (r:Reg) (ws:List ByteArray):Za r (K9::ws)=Jgt false 1 Jc6 r (K9::ws):=by
 have:(K9::ws).getD 0 Ja=K9:=rfl
 unfold Za
 rw[this,Jrk]
 rfl
def Z39 (a:Ls):=Ln (K9::a)
def Z79 (a:List Reg) (b:Ls):=(Za (Kd a) (K9::b)).1
def J9l (a:List Reg) (b:Ls):=0=(Za (Kd a) (K9::b)).2
def J9i:=0≤1000000∧0≤140737488355328
def Kzc (a:Ls):=bif true then Z39 a !=1 else false
def Ken (a:Ls):=Jc6 Vw (Z83 a)
def Kdr (a:TypeId) (b c:List Ev) (d:List Reg) (e:Ls):=Sf true (Sf a (Sf (b,c,d) (B0=Z79 d e∧10=(Za (Kd d) (K9::e)).2)))
def Kvr (a:TypeId) (b c:List Ev) (d:List Reg) (e:Ls):=Sf true (Sf a (Sf (b,c,d) (B0=Z79 d e∧25=(Za (Kd d) (K9::e)).2)))
def Kdf (a:TypeId) (b c:List Ev) (d:List Reg) (e:Ls):=Sf true (Sf a (Sf (b,c,d) (Jmi=Z79 d e∧J9l d e)))
def Kc0 (a:List Reg):=Jc6 (Yf a) B0
def Kcr (a:List Reg) (b:Ls):=Jc6 (Yf a) (Z83 b)
theorem Jia (T:TypeId) (E C:List Ev) (G:List Reg) (ws:List ByteArray):wpFO Tryz.prog Jyn.g (na ()) (fun _=>na ()) (Sx.look ([(75,Tryz.f75)]:List (Nat×Func))) Tryz.f119 J0e T (E,C,G) (K9::ws,()):=by
 refine(by kernel_rfl:(Jf4 (E,C,G) (K9::ws)→Tw (Bd 0 (Z39 ws))∧Br false (Tw (Bd 1 (Z39 ws))∧Br (bif !false==bif Z39 ws==2 then Jqf ws else false then true else Kzc ws) (Kvr T E C G ws) (Br (V5 G) (V4 G∧Jcb G∧Br false (Kdr T E C G ws) (Y3 G∧Br (Ln (Kcr G ws)==0) (Kdf T E C G ws) ((List.length (Kcr G ws)≤1000000∧List.length (Lib.join (List.map (fun(x:ByteArray)=>Z13 x) (Kcr G ws)) [32])≤140737488355328)∧Sf true (Sf T (Sf (E,C,G) (Vt (Kcr G ws) Hp=Z79 G ws∧J9l G ws)))))) (Jbc∧Br false (Kdr T E C G ws) (Yv∧Br (Ln (Ken ws)==0) (Kdf T E C G ws) ((List.length (Ken ws)≤1000000∧List.length (Lib.join (List.map (fun(x:ByteArray)=>Z13 x) (Ken ws)) [32])≤140737488355328)∧Sf true (Sf T (Sf (E,C,G) (Vt (Ken ws) Hp=Z79 G ws∧J9l G ws)))))))) (Br (bif !false==bif Z39 ws==2 then false else false then true else Kzc ws) (Kvr T E C G ws) (Br (V5 G) (V4 G∧Jcb G∧Br false (Kdr T E C G ws) (Y3 G∧Br (Ln (Kc0 G)==0) (Kdf T E C G ws) ((List.length (Kc0 G)≤1000000∧List.length (Lib.join (List.map (fun(x:ByteArray)=>Z13 x) (Kc0 G)) [32])≤140737488355328)∧Sf true (Sf T (Sf (E,C,G) (Vt (Kc0 G) Hp=Z79 G ws∧J9l G ws)))))) (Jbc∧Br false (Kdr T E C G ws) (Yv∧Br true (Kdf T E C G ws) (J9i∧Sf true (Sf T (Sf (E,C,G) (Vt (Jc6 Vw B0) Hp=Z79 G ws∧J9l G ws)))))))))=_).mp ?_
 delta Z13 Z39 Z79 Z83 V5 Hp J9l J9i Jqf Jmi L5 V4 Vw Yv Jbc Kzc D2 Jae D1 Ken Ho Fp Hn L4 Zx Kdr Kvr Kdf Fo Yf Y3 Kc0 Jcb Kcr Br Iw Bd Tw Sf Ln Gt B0 Lb E2 K9
 intro ha
 obtain⟨hh,hn,-,-,hmax,hsz⟩:=ha
 have hr:Jl (Kd G):=X3 hh
 have hN:NmR (Kd G):=Jew hn
 have hG:G.length≤1000:=by have:=hh.nE;have:=hh.nC;have:=hh.nG;dsimp only at*;omega
 rw[Jn5]
 have hbn:({data:={toList:=[]}}:ByteArray)=Ja:=rfl
 have hl:((K9::ws).length:Int)=(ws.length:Int)+1:=by simp
 have ha1:(K9::ws).getD 1 Ja=ws.getD 0 Ja:=rfl
 have hz:((0:Int),(0:Int),([]:List Sta),([]:List Ord),([]:List Met),([]:List Out),([]:List Per))=U0:=rfl
 simp only[hbn,hz,hl,Prod.eta,Jgt,ha1]
 rcases Jev G with⟨hd,e0⟩|⟨hd,e0⟩
 ·rw[e0] at hr hN⊢
  have hp:=of_decide_eq_true hd
  rw[hd]
  generalize G.getD ((G.length:Int)-1).toNat U0=r at hr hN⊢
  cases h2:(ws.length:Int)+1==1
  all_goals cases h6:(ws.length:Int)+1==2
  all_goals cases h3:(ws.getD 0 Ja).toList==Ja.toList
  all_goals cases h5:(((Jc6 r Ja).length:Int)==0)
  all_goals simp only[h2,h3,h5,h6,bne,Jmh,Bool.not_true,Bool.not_false,cond_true,cond_false,BEq.rfl,Bool.true_beq,Bool.false_beq,reduceCtorEq,false_implies,forall_const,true_and,and_true,and_self]
  all_goals repeat' apply And.intro
  all_goals first|omega|(have:=eq_of_beq h2;omega)|exact hr|exact(K4 (Jio hr hN _)).1|exact(K4 (Jio hr hN _)).2|rfl|(have:=h4;simpa[Vi] using this)|skip
 ·rw[e0] at hr hN⊢
  rw[hd]
  cases h2:(ws.length:Int)+1==1
  all_goals cases h6:(ws.length:Int)+1==2
  all_goals cases h3:(ws.getD 0 Ja).toList==Ja.toList
  all_goals cases h5:(((Jc6 U0 Ja).length:Int)==0)
  all_goals simp only[h2,h3,h5,h6,bne,Jmh,Bool.not_true,Bool.not_false,cond_true,cond_false,BEq.rfl,Bool.true_beq,Bool.false_beq,reduceCtorEq,false_implies,forall_const,true_and,and_true,and_self]
  all_goals repeat' apply And.intro
  all_goals first|omega|(have:=eq_of_beq h2;omega)|exact hr|exact(K4 (Jio hr hN _)).1|exact(K4 (Jio hr hN _)).2|rfl|(have:=h4;simpa[Vi,U0] using this)|exact nomatch (show true=false from h5)|exact nomatch (show false=true from h5)
theorem Jrj:Jcn Uf=(false,2,some 201):=by kernel_rfl
theorem Jn4 (r:Reg) (ws:List ByteArray):Za r (Uf::ws)=Jgt false 2 Jsr r (Uf::ws):=by
 have:(Uf::ws).getD 0 Ja=Uf:=rfl
 unfold Za
 rw[this,Jrj]
 rfl
def Z41 (a:Ls):=Ln (Uf::a)
def Z80 (a:List Reg) (b:Ls):=(Za (Kd a) (Uf::b)).1
def J9m (a:List Reg) (b:Ls):=0=(Za (Kd a) (Uf::b)).2
def Kza (a:Ls):=bif true then Z41 a !=1 else false
def Keq (a:Ls):=Jsr Vw (Z83 a)
def Kvo (a:TypeId) (b c:List Ev) (d:List Reg) (e:Ls):=Sf true (Sf a (Sf (b,c,d) (B0=Z80 d e∧25=(Za (Kd d) (Uf::e)).2)))
def Kdm (a:TypeId) (b c:List Ev) (d:List Reg) (e:Ls):=Sf true (Sf a (Sf (b,c,d) (B0=Z80 d e∧10=(Za (Kd d) (Uf::e)).2)))
def Kdd (a:TypeId) (b c:List Ev) (d:List Reg) (e:Ls):=Sf true (Sf a (Sf (b,c,d) (Jmi=Z80 d e∧J9m d e)))
def Kc1 (a:List Reg):=Jsr (Yf a) B0
def Kcw (a:List Reg) (b:Ls):=Jsr (Yf a) (Z83 b)
theorem Jh9 (T:TypeId) (E C:List Ev) (G:List Reg) (ws:List ByteArray):wpFO Tryz.prog Jyn.g (na ()) (fun _=>na ()) (Sx.look ([(75,Tryz.f75)]:List (Nat×Func))) Tryz.f119 J0e T (E,C,G) (Uf::ws,()):=by
 refine(by kernel_rfl:(Jf4 (E,C,G) (Uf::ws)→Tw (Bd 0 (Z41 ws))∧Br false (Tw (Bd 1 (Z41 ws))∧Br (bif !false==bif Z41 ws==2 then Jqf ws else false then true else Kza ws) (Kvo T E C G ws) (Br (V5 G) (V4 G∧Jcb G∧Br false (Kdm T E C G ws) (Y3 G∧Br (Ln (Kcw G ws)==0) (Kdd T E C G ws) ((List.length (Kcw G ws)≤1000000∧List.length (Lib.join (List.map (fun(x:ByteArray)=>Z13 x) (Kcw G ws)) [32])≤140737488355328)∧Sf true (Sf T (Sf (E,C,G) (Vt (Kcw G ws) Hp=Z80 G ws∧J9m G ws)))))) (Jbc∧Br false (Kdm T E C G ws) (Yv∧Br (Ln (Keq ws)==0) (Kdd T E C G ws) ((List.length (Keq ws)≤1000000∧List.length (Lib.join (List.map (fun(x:ByteArray)=>Z13 x) (Keq ws)) [32])≤140737488355328)∧Sf true (Sf T (Sf (E,C,G) (Vt (Keq ws) Hp=Z80 G ws∧J9m G ws)))))))) (Br (bif !false==bif Z41 ws==2 then false else false then true else Kza ws) (Kvo T E C G ws) (Br (V5 G) (V4 G∧Jcb G∧Br false (Kdm T E C G ws) (Y3 G∧Br (Ln (Kc1 G)==0) (Kdd T E C G ws) ((List.length (Kc1 G)≤1000000∧List.length (Lib.join (List.map (fun(x:ByteArray)=>Z13 x) (Kc1 G)) [32])≤140737488355328)∧Sf true (Sf T (Sf (E,C,G) (Vt (Kc1 G) Hp=Z80 G ws∧J9m G ws)))))) (Jbc∧Br false (Kdm T E C G ws) (Yv∧Br true (Kdd T E C G ws) (J9i∧Sf true (Sf T (Sf (E,C,G) (Vt (Jsr Vw B0) Hp=Z80 G ws∧J9m G ws)))))))))=_).mp ?_
 delta Z13 Z41 Z80 Z83 V5 Hp J9m J9i Jqf Jmi L5 V4 Vw Yv Jbc Kza D2 Jae D1 Keq Ho Fp Hn L4 Zx Kvo Kdm Kdd Fo Yf Y3 Kc1 Jcb Kcw Br Iw Bd Tw Sf Ln Gt B0 Lb E2 Uf
 intro ha
 obtain⟨hh,hn,-,-,hmax,hsz⟩:=ha
 have hr:Jl (Kd G):=X3 hh
 have hN:NmR (Kd G):=Jew hn
 have hG:G.length≤1000:=by have:=hh.nE;have:=hh.nC;have:=hh.nG;dsimp only at*;omega
 rw[Jn4]
 have hbn:({data:={toList:=[]}}:ByteArray)=Ja:=rfl
 have hl:((Uf::ws).length:Int)=(ws.length:Int)+1:=by simp
 have ha1:(Uf::ws).getD 1 Ja=ws.getD 0 Ja:=rfl
 have hz:((0:Int),(0:Int),([]:List Sta),([]:List Ord),([]:List Met),([]:List Out),([]:List Per))=U0:=rfl
 simp only[hbn,hz,hl,Prod.eta,Jgt,ha1]
 rcases Jev G with⟨hd,e0⟩|⟨hd,e0⟩
 ·rw[e0] at hr hN⊢
  have hp:=of_decide_eq_true hd
  rw[hd]
  generalize G.getD ((G.length:Int)-1).toNat U0=r at hr hN⊢
  cases h2:(ws.length:Int)+1==1
  all_goals cases h6:(ws.length:Int)+1==2
  all_goals cases h3:(ws.getD 0 Ja).toList==Ja.toList
  all_goals cases h5:(((Jsr r Ja).length:Int)==0)
  all_goals simp only[h2,h3,h5,h6,bne,Jmh,Bool.not_true,Bool.not_false,cond_true,cond_false,BEq.rfl,Bool.true_beq,Bool.false_beq,reduceCtorEq,false_implies,forall_const,true_and,and_true,and_self]
  all_goals repeat' apply And.intro
  all_goals first|omega|(have:=eq_of_beq h2;omega)|exact hr|exact(K4 (Jou hr hN _)).1|exact(K4 (Jou hr hN _)).2|rfl|(have:=h4;simpa[Vi] using this)|skip
 ·rw[e0] at hr hN⊢
  rw[hd]
  cases h2:(ws.length:Int)+1==1
  all_goals cases h6:(ws.length:Int)+1==2
  all_goals cases h3:(ws.getD 0 Ja).toList==Ja.toList
  all_goals cases h5:(((Jsr U0 Ja).length:Int)==0)
  all_goals simp only[h2,h3,h5,h6,bne,Jmh,Bool.not_true,Bool.not_false,cond_true,cond_false,BEq.rfl,Bool.true_beq,Bool.false_beq,reduceCtorEq,false_implies,forall_const,true_and,and_true,and_self]
  all_goals repeat' apply And.intro
  all_goals first|omega|(have:=eq_of_beq h2;omega)|exact hr|exact(K4 (Jou hr hN _)).1|exact(K4 (Jou hr hN _)).2|rfl|(have:=h4;simpa[Vi,U0] using this)|exact nomatch (show true=false from h5)|exact nomatch (show false=true from h5)
theorem Jri:Jcn Ue=(false,3,some 205):=by kernel_rfl
theorem Jn3 (r:Reg) (ws:List ByteArray):Za r (Ue::ws)=Jgt false 3 Jsq r (Ue::ws):=by
 have:(Ue::ws).getD 0 Ja=Ue:=rfl
 unfold Za
 rw[this,Jri]
 rfl
def Z34 (a:Ls):=Ln (Ue::a)
def Z70 (a:List Reg) (b:Ls):=(Za (Kd a) (Ue::b)).1
def J9p (a:List Reg) (b:Ls):=0=(Za (Kd a) (Ue::b)).2
def Ky9 (a:Ls):=bif true then Z34 a !=1 else false
def Ker (a:Ls):=Jsq Vw (Z83 a)
def Kvs (a:TypeId) (b c:List Ev) (d:List Reg) (e:Ls):=Sf true (Sf a (Sf (b,c,d) (B0=Z70 d e∧25=(Za (Kd d) (Ue::e)).2)))
def Kdp (a:TypeId) (b c:List Ev) (d:List Reg) (e:Ls):=Sf true (Sf a (Sf (b,c,d) (B0=Z70 d e∧10=(Za (Kd d) (Ue::e)).2)))
def Kdg (a:TypeId) (b c:List Ev) (d:List Reg) (e:Ls):=Sf true (Sf a (Sf (b,c,d) (Jmi=Z70 d e∧J9p d e)))
def Kc3 (a:List Reg):=Jsq (Yf a) B0
def Kcu (a:List Reg) (b:Ls):=Jsq (Yf a) (Z83 b)
theorem Jh8 (T:TypeId) (E C:List Ev) (G:List Reg) (ws:List ByteArray):wpFO Tryz.prog Jyn.g (na ()) (fun _=>na ()) (Sx.look ([(75,Tryz.f75)]:List (Nat×Func))) Tryz.f119 J0e T (E,C,G) (Ue::ws,()):=by
 refine(by kernel_rfl:(Jf4 (E,C,G) (Ue::ws)→Tw (Bd 0 (Z34 ws))∧Br false (Tw (Bd 1 (Z34 ws))∧Br (bif !false==bif Z34 ws==2 then Jqf ws else false then true else Ky9 ws) (Kvs T E C G ws) (Br (V5 G) (V4 G∧Jcb G∧Br false (Kdp T E C G ws) (Y3 G∧Br (Ln (Kcu G ws)==0) (Kdg T E C G ws) ((List.length (Kcu G ws)≤1000000∧List.length (Lib.join (List.map (fun(x:ByteArray)=>Z13 x) (Kcu G ws)) [32])≤140737488355328)∧Sf true (Sf T (Sf (E,C,G) (Vt (Kcu G ws) Hp=Z70 G ws∧J9p G ws)))))) (Jbc∧Br false (Kdp T E C G ws) (Yv∧Br (Ln (Ker ws)==0) (Kdg T E C G ws) ((List.length (Ker ws)≤1000000∧List.length (Lib.join (List.map (fun(x:ByteArray)=>Z13 x) (Ker ws)) [32])≤140737488355328)∧Sf true (Sf T (Sf (E,C,G) (Vt (Ker ws) Hp=Z70 G ws∧J9p G ws)))))))) (Br (bif !false==bif Z34 ws==2 then false else false then true else Ky9 ws) (Kvs T E C G ws) (Br (V5 G) (V4 G∧Jcb G∧Br false (Kdp T E C G ws) (Y3 G∧Br (Ln (Kc3 G)==0) (Kdg T E C G ws) ((List.length (Kc3 G)≤1000000∧List.length (Lib.join (List.map (fun(x:ByteArray)=>Z13 x) (Kc3 G)) [32])≤140737488355328)∧Sf true (Sf T (Sf (E,C,G) (Vt (Kc3 G) Hp=Z70 G ws∧J9p G ws)))))) (Jbc∧Br false (Kdp T E C G ws) (Yv∧Br true (Kdg T E C G ws) (J9i∧Sf true (Sf T (Sf (E,C,G) (Vt (Jsq Vw B0) Hp=Z70 G ws∧J9p G ws)))))))))=_).mp ?_
 delta Z13 Z34 Z70 Z83 V5 Hp J9p J9i Jqf Jmi L5 V4 Vw Yv Jbc Ky9 D2 Ker Jae D1 Ho Fp Hn L4 Zx Kvs Kdp Kdg Fo Yf Y3 Kc3 Jcb Kcu Br Iw Bd Tw Sf Ln Gt B0 Lb E2 Ue
 intro ha
 obtain⟨hh,hn,-,-,hmax,hsz⟩:=ha
 have hr:Jl (Kd G):=X3 hh
 have hN:NmR (Kd G):=Jew hn
 have hG:G.length≤1000:=by have:=hh.nE;have:=hh.nC;have:=hh.nG;dsimp only at*;omega
 rw[Jn3]
 have hbn:({data:={toList:=[]}}:ByteArray)=Ja:=rfl
 have hl:((Ue::ws).length:Int)=(ws.length:Int)+1:=by simp
 have ha1:(Ue::ws).getD 1 Ja=ws.getD 0 Ja:=rfl
 have hz:((0:Int),(0:Int),([]:List Sta),([]:List Ord),([]:List Met),([]:List Out),([]:List Per))=U0:=rfl
 simp only[hbn,hz,hl,Prod.eta,Jgt,ha1]
 rcases Jev G with⟨hd,e0⟩|⟨hd,e0⟩
 ·rw[e0] at hr hN⊢
  have hp:=of_decide_eq_true hd
  rw[hd]
  generalize G.getD ((G.length:Int)-1).toNat U0=r at hr hN⊢
  cases h2:(ws.length:Int)+1==1
  all_goals cases h6:(ws.length:Int)+1==2
  all_goals cases h3:(ws.getD 0 Ja).toList==Ja.toList
  all_goals cases h5:(((Jsq r Ja).length:Int)==0)
  all_goals simp only[h2,h3,h5,h6,bne,Jmh,Bool.not_true,Bool.not_false,cond_true,cond_false,BEq.rfl,Bool.true_beq,Bool.false_beq,reduceCtorEq,false_implies,forall_const,true_and,and_true,and_self]
  all_goals repeat' apply And.intro
  all_goals first|omega|(have:=eq_of_beq h2;omega)|exact hr|exact(K4 (Jot hr hN _)).1|exact(K4 (Jot hr hN _)).2|rfl|(have:=h4;simpa[Vi] using this)|skip
 ·rw[e0] at hr hN⊢
  rw[hd]
  cases h2:(ws.length:Int)+1==1
  all_goals cases h6:(ws.length:Int)+1==2
  all_goals cases h3:(ws.getD 0 Ja).toList==Ja.toList
  all_goals cases h5:(((Jsq U0 Ja).length:Int)==0)
  all_goals simp only[h2,h3,h5,h6,bne,Jmh,Bool.not_true,Bool.not_false,cond_true,cond_false,BEq.rfl,Bool.true_beq,Bool.false_beq,reduceCtorEq,false_implies,forall_const,true_and,and_true,and_self]
  all_goals repeat' apply And.intro
  all_goals first|omega|(have:=eq_of_beq h2;omega)|exact hr|exact(K4 (Jot hr hN _)).1|exact(K4 (Jot hr hN _)).2|rfl|(have:=h4;simpa[Vi,U0] using this)|exact nomatch (show true=false from h5)|exact nomatch (show false=true from h5)
theorem Jrh:Jcn Ud=(false,0,some 209):=by kernel_rfl
theorem Jn2 (r:Reg) (ws:List ByteArray):Za r (Ud::ws)=Jgt false 0 Jek r (Ud::ws):=by
 have:(Ud::ws).getD 0 Ja=Ud:=rfl
 unfold Za
 rw[this,Jrh]
 rfl
def Z36 (a:Ls):=Ln (Ud::a)
def Z78 (a:List Reg) (b:Ls):=(Za (Kd a) (Ud::b)).1
def J9o (a:List Reg) (b:Ls):=0=(Za (Kd a) (Ud::b)).2
def Kze (a:Ls):=bif true then Z36 a !=1 else false
def Keo (a:Ls):=Jek Vw (Z83 a)
def Kdo (a:TypeId) (b c:List Ev) (d:List Reg) (e:Ls):=Sf true (Sf a (Sf (b,c,d) (B0=Z78 d e∧10=(Za (Kd d) (Ud::e)).2)))
def Kvq (a:TypeId) (b c:List Ev) (d:List Reg) (e:Ls):=Sf true (Sf a (Sf (b,c,d) (B0=Z78 d e∧25=(Za (Kd d) (Ud::e)).2)))
def Kdc (a:TypeId) (b c:List Ev) (d:List Reg) (e:Ls):=Sf true (Sf a (Sf (b,c,d) (Jmi=Z78 d e∧J9o d e)))
def Kcz (a:List Reg):=Jek (Yf a) B0
def Kcs (a:List Reg) (b:Ls):=Jek (Yf a) (Z83 b)
theorem Jh7 (T:TypeId) (E C:List Ev) (G:List Reg) (ws:List ByteArray):wpFO Tryz.prog Jyn.g (na ()) (fun _=>na ()) (Sx.look ([(75,Tryz.f75)]:List (Nat×Func))) Tryz.f119 J0e T (E,C,G) (Ud::ws,()):=by
 refine(by kernel_rfl:(Jf4 (E,C,G) (Ud::ws)→Tw (Bd 0 (Z36 ws))∧Br false (Tw (Bd 1 (Z36 ws))∧Br (bif !false==bif Z36 ws==2 then Jqf ws else false then true else Kze ws) (Kvq T E C G ws) (Br (V5 G) (V4 G∧Jcb G∧Br false (Kdo T E C G ws) (Y3 G∧Br (Ln (Kcs G ws)==0) (Kdc T E C G ws) ((List.length (Kcs G ws)≤1000000∧List.length (Lib.join (List.map (fun(x:ByteArray)=>Z13 x) (Kcs G ws)) [32])≤140737488355328)∧Sf true (Sf T (Sf (E,C,G) (Vt (Kcs G ws) Hp=Z78 G ws∧J9o G ws)))))) (Jbc∧Br false (Kdo T E C G ws) (Yv∧Br (Ln (Keo ws)==0) (Kdc T E C G ws) ((List.length (Keo ws)≤1000000∧List.length (Lib.join (List.map (fun(x:ByteArray)=>Z13 x) (Keo ws)) [32])≤140737488355328)∧Sf true (Sf T (Sf (E,C,G) (Vt (Keo ws) Hp=Z78 G ws∧J9o G ws)))))))) (Br (bif !false==bif Z36 ws==2 then false else false then true else Kze ws) (Kvq T E C G ws) (Br (V5 G) (V4 G∧Jcb G∧Br false (Kdo T E C G ws) (Y3 G∧Br (Ln (Kcz G)==0) (Kdc T E C G ws) ((List.length (Kcz G)≤1000000∧List.length (Lib.join (List.map (fun(x:ByteArray)=>Z13 x) (Kcz G)) [32])≤140737488355328)∧Sf true (Sf T (Sf (E,C,G) (Vt (Kcz G) Hp=Z78 G ws∧J9o G ws)))))) (Jbc∧Br false (Kdo T E C G ws) (Yv∧Br false (Kdc T E C G ws) (J9j∧Sf true (Sf T (Sf (E,C,G) (Vt (Jek Vw B0) Hp=Z78 G ws∧J9o G ws)))))))))=_).mp ?_
 delta Z13 Z36 Z78 Z83 V5 Hp J9o J9j Jqf Jmi L5 V4 Vw Yv Jbc Kze D2 Jae D1 Keo Ho Fp Hn L4 Zx Kdo Kvq Kdc Fo Yf Y3 Kcz Jcb Kcs Br Iw Bd Tw Sf Ln Gt B0 Lb E2 Ud
 intro ha
 obtain⟨hh,hn,-,-,hmax,hsz⟩:=ha
 have hr:Jl (Kd G):=X3 hh
 have hN:NmR (Kd G):=Jew hn
 have hG:G.length≤1000:=by have:=hh.nE;have:=hh.nC;have:=hh.nG;dsimp only at*;omega
 rw[Jn2]
 have hbn:({data:={toList:=[]}}:ByteArray)=Ja:=rfl
 have hl:((Ud::ws).length:Int)=(ws.length:Int)+1:=by simp
 have ha1:(Ud::ws).getD 1 Ja=ws.getD 0 Ja:=rfl
 have hz:((0:Int),(0:Int),([]:List Sta),([]:List Ord),([]:List Met),([]:List Out),([]:List Per))=U0:=rfl
 simp only[hbn,hz,hl,Prod.eta,Jgt,ha1]
 rcases Jev G with⟨hd,e0⟩|⟨hd,e0⟩
 ·rw[e0] at hr hN⊢
  have hp:=of_decide_eq_true hd
  rw[hd]
  generalize G.getD ((G.length:Int)-1).toNat U0=r at hr hN⊢
  cases h2:(ws.length:Int)+1==1
  all_goals cases h6:(ws.length:Int)+1==2
  all_goals cases h3:(ws.getD 0 Ja).toList==Ja.toList
  all_goals cases h5:(((Jek r Ja).length:Int)==0)
  all_goals simp only[h2,h3,h5,h6,bne,Jmh,Bool.not_true,Bool.not_false,cond_true,cond_false,BEq.rfl,Bool.true_beq,Bool.false_beq,reduceCtorEq,false_implies,forall_const,true_and,and_true,and_self]
  all_goals repeat' apply And.intro
  all_goals first|omega|(have:=eq_of_beq h2;omega)|exact hr|exact(K4 (Jim hr _)).1|exact(K4 (Jim hr _)).2|rfl|(have:=h4;simpa[Vi] using this)|skip
 ·rw[e0] at hr hN⊢
  rw[hd]
  cases h2:(ws.length:Int)+1==1
  all_goals cases h6:(ws.length:Int)+1==2
  all_goals cases h3:(ws.getD 0 Ja).toList==Ja.toList
  all_goals cases h5:(((Jek U0 Ja).length:Int)==0)
  all_goals simp only[h2,h3,h5,h6,bne,Jmh,Bool.not_true,Bool.not_false,cond_true,cond_false,BEq.rfl,Bool.true_beq,Bool.false_beq,reduceCtorEq,false_implies,forall_const,true_and,and_true,and_self]
  all_goals repeat' apply And.intro
  all_goals first|omega|(have:=eq_of_beq h2;omega)|exact hr|exact(K4 (Jim hr _)).1|exact(K4 (Jim hr _)).2|rfl|(have:=h4;simpa[Vi,U0] using this)|exact nomatch (show true=false from h5)|exact nomatch (show false=true from h5)
theorem Jnc {k:ByteArray} (h:Jha k=true):k=Ug∨k=Hr∨k=Hs∨k=K9∨k=Uf∨k=Ue∨k=Ud:=by
 obtain⟨x,hx,hk⟩:=Jey h
 have hk:=Ju2 hk
 unfold Jej Tryz.questU at hx
 subst hk
 simp only[List.mem_cons,List.not_mem_nil,or_false] at hx
 rcases hx with rfl|rfl|rfl|rfl|rfl|rfl|rfl
 all_goals simp
theorem Kme (T:TypeId):∀(x:Kn) (y:ATup [.val false (.list 9 .str)]),wpFO Tryz.prog Jyn.g (na ()) (fun _=>na ()) (Sx.look ([(75,Tryz.f75)]:List (Nat×Func))) Tryz.f119 J0e T x y
 | (E, C, G), (l, ()) => by
  refine Jh0 (by kernel_rfl) fun hp=> ?_
  have hl:1≤l.length:=Jf4.len hp
  have hk:Jha (l.getD 0 Ja)=true:=Jf4.key hp
  obtain⟨w,ws,rfl⟩:∃w ws,l=w::ws:=by
   cases l with
   |nil=>exact absurd hl (by decide)
   |cons w ws=>exact⟨w,ws,rfl⟩
  have hk:Jha w=true:=hk
  rcases Jnc hk with rfl|rfl|rfl|rfl|rfl|rfl|rfl
  ·exact Jib T E C G ws
  ·exact Jq1 T E C G ws
  ·exact Jq2 T E C G ws
  ·exact Jia T E C G ws
  ·exact Jh9 T E C G ws
  ·exact Jh8 T E C G ws
  ·exact Jh7 T E C G ws
theorem Kpo:Ok Tryz.prog 119 (Xx.con J0e):=X2 (Ub mixed Jyn.ok (by kernel_rfl) (by kernel_rfl) (U1 (l:=([(75,Tryz.f75)]:List (Nat×Func))) (List.forall_mem_cons.2 ⟨by kernel_rfl,by simp⟩)) (fun _ _=>na ()) (fun _ _=>fun _=>na ()) fun T xx yy _=>Kme T xx yy)
abbrev K7a:=Jyn.add Kpo
abbrev K1e:=K7a.add J36
def doW (line:ByteArray):List ByteArray:=Xz line ⟨⟨[32]⟩⟩
def do1 (line:ByteArray):Int:=Jg [bif decide (4096<(line.size:Int)) then 26 else 0,bif line.toList==Ja.toList then 25 else 0]
def do2 (h:Kn) (ws:List ByteArray):Int:=Jg [bif !(Y5 ws).2 then 25 else 0,bif decide (1000≤(h.1.length:Int)) then 5 else 0]
def evD (h:Kn) (ws:List ByteArray):Ev:=((h.1.length:Int)+1,(Y5 ws).1.2)
def Kan (n:Int):ByteArray:=bs ([100,111,110,101,32]++(Vk n).data.toList)
def doF (h:Kn) (line:ByteArray):Kn×ByteArray×Int:=
 if do1 line≠0 then(h,Ja,do1 line) else
 if Jha ((doW line).getD 0 Ja)=true then(h,Za (Kd h.2.2) (doW line)) else
 if Yw ((doW line).getD 0 Ja)=false then(h,Ja,13) else
 if do2 h (doW line)≠0 then(h,Ja,do2 h (doW line)) else
 if Up h (evD h (doW line))≠0 then(h,Ja,Up h (evD h (doW line))) else
 (Dv h (evD h (doW line)),Kan ((h.1.length:Int)+1),0)
def cDo:Xx:={T? :=some 212,s:=Jis,args:=[aS],ress:=[tS,I],pre:=fun h (l,_)=>[Y7 h,D5 h,l.size≤1000000],spec:=fun h (l,_)=>((doF h l).2.1,(doF h l).2.2,()),post:=fun h (l,_)=>(doF h l).1}
theorem Kao {l:ByteArray} (h:l.size≤1000000) (h4:l.size≤4096):1≤(doW l).length∧(doW l).length≤1000000∧∀w∈doW l,w.size≤1000000:=by
 have e:doW l=(Jj4 32 l.data.toList).map bs:=Jd3 l 32
 have h1:=Jik 32 l.data.toList
 have hl:l.data.toList.length=l.size:=rfl
 rw[e]
 refine⟨?_,by rw[List.length_map];omega,fun w hw=> ?_⟩
 ·rw[List.length_map]
  have:∀l:List UInt8,1≤(Jj4 32 l).length:=by
   intro l
   induction l with
   |nil=>decide
   |cons c r ih=>unfold Jj4;split<;>(try split)<;>simp only[List.length_cons,List.length_nil]<;>omega
  exact this _
 ·obtain⟨v,hv,rfl⟩:=List.mem_map.1 hw
  have:=Jal _ _ v hv
  rw[Xk];omega
def Jyd (a:Bt):=Xz a Hp
def K09 (a:Bt):=(Y5 (Jyd a)).1.2
def K08 (a:Bt):=(K09 a).2
def K0y (a:Bt):=List.getD (Jyd a) 0 B0
def K0q (a:Bt):=Tw (Bd 0 (Ln (Jyd a)))
def Kxf (a:Bt):=Jg [bif decide (4096<Nc (ByteArray.size a)) then 26 else 0,bif Lb a B0 then 25 else 0]
def Kvp (a:Bt) (b:List Ev):=Jg [bif !(Y5 (Jyd a)).2 then 25 else 0,bif decide (1000≤Ln b) then 5 else 0]
def Kgz (a:List Ev) (b:Bt):=(Z6 a,(K09 b).1,(K08 b).1,E2 (K08 b).2)
def Kuj (a b:List Ev) (c:List Reg) (d:Bt):=Vm (a,b,c) (Kgz a d)
def Kui (a b:List Ev) (c:List Reg) (d:Bt):=Up (a,b,c) (Kgz a d)
def Ksy (a b:List Ev) (c:List Reg) (d:Bt):=((Kuj a b c d).1,E2 (Kuj a b c d).2)=(doF (a,b,c) d).1
theorem K36 (E C:List Ev) (G:List Reg) (line:ByteArray):wpFO Tryz.prog K1e.g (na ()) (fun _=>na ()) (Sx.look ([]:List (Nat×Func))) Tryz.f40 cDo 212 (E,C,G) (line,()):=by
 refine(by kernel_rfl:(Y7 (E,C,G)→D5 (E,C,G)→ByteArray.size line≤1000000→Br false (Sf true (Sf 212 ((E,C,G)=(doF (E,C,G) line).1∧B0=(doF (E,C,G) line).2.1∧22=(doF (E,C,G) line).2.2))) (2≤1000000∧Br (Kxf line !=0) (Sf true (Sf 212 ((E,C,G)=(doF (E,C,G) line).1∧B0=(doF (E,C,G) line).2.1∧Kxf line=(doF (E,C,G) line).2.2))) ((ByteArray.size line≤1000000∧1≤1)∧K0q line∧Br (Option.isSome (Um Sch.str (K0y line) Jej)) (Jf4 (E,C,G) (Jyd line)∧Sf true (Sf 212 ((E,C,G)=(doF (E,C,G) line).1∧(Za (Kd G) (Jyd line)).1=(doF (E,C,G) line).2.1∧(Za (Kd G) (Jyd line)).2=(doF (E,C,G) line).2.2))) (K0q line∧Br (!Option.isSome (Um Sch.str (K0y line) Lo)) (Sf true (Sf 212 ((E,C,G)=(doF (E,C,G) line).1∧B0=(doF (E,C,G) line).2.1∧13=(doF (E,C,G) line).2.2))) ((List.length (Jyd line)≤1000000∧∀(w:ByteArray),w∈Jyd line→ByteArray.size w≤1000000)∧2≤1000000∧Br (Kvp line E !=0) (Sf true (Sf 212 ((E,C,G)=(doF (E,C,G) line).1∧B0=(doF (E,C,G) line).2.1∧Kvp line E=(doF (E,C,G) line).2.2))) (Z62 E∧(Kf (E,C,G)∧Z40 E∧Jfm (Kgz E line))∧Br (Kui E C G line !=0) (Sf true (Sf 212 (Ksy E C G line∧B0=(doF (E,C,G) line).2.1∧Kui E C G line=(doF (E,C,G) line).2.2))) ((Z62 E∧Nc (5+ByteArray.size (Vk (Z6 E)))≤9223372036854775807)∧Sf true (Sf 212 (Ksy E C G line∧ByteArray.mk (Array.mk (100::111::110::101::32::([]++(Vk (Z6 E)).data.toList)))=(doF (E,C,G) line).2.1∧0=(doF (E,C,G) line).2.2)))))))))=_).mp ?_
 delta Z6 Z40 Z62 Hp Jyd K09 K08 K0y K0q Kxf Kvp Kgz Kuj Kui Ksy Br Iw Bd Tw Sf Ln Nc B0 Lb E2
 intro hi hn hsz
 have hbn:({data:={toList:=[]}}:ByteArray)=Ja:=rfl
 have hW:Xz line {data:={toList:=[32]}}=doW line:=rfl
 have hd1:Jg [bif decide (4096<(line.size:Int)) then 26 else 0,bif line.toList==Ja.toList then 25 else 0]=do1 line:=rfl
 have hd2:Jg [bif !(Y5 (doW line)).2 then 25 else 0,bif decide (1000≤(E.length:Int)) then 5 else 0]=do2 (E,C,G) (doW line):=rfl
 have hq:(Um Sch.str ((doW line).getD 0 Ja) Jej).isSome=Jha ((doW line).getD 0 Ja):=rfl
 have hk:(Um Sch.str ((doW line).getD 0 Ja) Lo).isSome=Yw ((doW line).getD 0 Ja):=rfl
 have he:((E.length:Int)+1,(Y5 (doW line)).1.2)=evD (E,C,G) (doW line):=rfl
 simp only[hbn,hW,Prod.eta,hd1,hd2,hq,hk,he]
 have nE:E.length≤1000:=hi.ok.nE
 refine⟨fun h=>(nomatch h),fun _=>⟨by decide,fun h1=> ?_,fun h1=> ?_⟩⟩
 ·have e:doF (E,C,G) line=((E,C,G),Ja,do1 line):=by unfold doF;rw[if_pos (bne_iff_ne.1 h1)]
  rw[e];exact⟨trivial,trivial,rfl,rfl,rfl⟩
 have e1:do1 line=0:=bne_eq_false_iff_eq.1 h1
 have h4:line.size≤4096:=by
  cases hc:decide (4096<(line.size:Int)) with
  |false=>have:=of_decide_eq_false hc;omega
  |true=>rw[do1,hc] at e1;exact nomatch (show(26:Int)=0 from e1)
 obtain⟨w1,w2,w3⟩:=Kao hsz h4
 refine⟨⟨hsz,Nat.le_refl _⟩,by(repeat' first|apply And.intro|(first|omega|dsimp only;omega)),fun h2=> ?_,fun h2=>⟨by(repeat' first|apply And.intro|(first|omega|dsimp only;omega)),fun h3=> ?_,fun h3=> ?_⟩⟩
 ·have e:doF (E,C,G) line=((E,C,G),Za (Kd G) (doW line)):=by unfold doF;rw[if_neg (by rw[e1];decide),if_pos h2]
  rw[e];exact⟨⟨hi.ok,hn,w1,h2,w2,w3⟩,trivial,trivial,rfl,rfl,rfl⟩
 ·have h3:Yw ((doW line).getD 0 Ja)=false:=by simpa using h3
  have e:doF (E,C,G) line=((E,C,G),Ja,13):=by unfold doF;rw[if_neg (by rw[e1];decide),if_neg (by rw[h2];decide),if_pos h3]
  rw[e];exact⟨trivial,trivial,rfl,rfl,rfl⟩
 have h3:Yw ((doW line).getD 0 Ja)=true:=by simpa using h3
 refine⟨⟨w2,w3⟩,by decide,fun h5=> ?_,fun h5=> ?_⟩
 ·have e:doF (E,C,G) line=((E,C,G),Ja,do2 (E,C,G) (doW line)):=by unfold doF;rw[if_neg (by rw[e1];decide),if_neg (by rw[h2];decide),if_neg (by rw[h3];decide),if_pos (bne_iff_ne.1 h5)]
  rw[e];exact⟨trivial,trivial,rfl,rfl,rfl⟩
 have e5:do2 (E,C,G) (doW line)=0:=bne_eq_false_iff_eq.1 h5
 have hE:E.length<1000:=by
  cases hc:decide (1000≤(E.length:Int)) with
  |false=>have:=of_decide_eq_false hc;omega
  |true=>
   rw[do2] at e5
   have hc:decide (1000≤(((E,C,G):Kn).1.length:Int))=true:=hc
   rw[hc] at e5
   cases hx:(Y5 (doW line)).2<;>rw[hx] at e5<;>exact nomatch e5
 have hz:=Jo5 w3
 have hsz2:Jfm (evD (E,C,G) (doW line)):=⟨Nat.le_trans hz.1 (by decide),Nat.le_trans hz.2.1 (by decide),hz.2.2⟩
 refine⟨by(repeat' first|apply And.intro|(first|omega|dsimp only;omega)),⟨hi.ok,hE,hsz2⟩,fun h6=> ?_,fun h6=> ?_⟩
 ·have n6:=bne_iff_ne.1 h6
  have e:doF (E,C,G) line=((E,C,G),Ja,Up (E,C,G) (evD (E,C,G) (doW line))):=by unfold doF;rw[if_neg (by rw[e1];decide),if_neg (by rw[h2];decide),if_neg (by rw[h3];decide),if_neg (by rw[e5];decide),if_pos n6]
  have ea:Vm (E,C,G) (evD (E,C,G) (doW line))=(E,C,G):=by unfold Vm;rw[if_neg n6]
  rw[e,ea];exact⟨trivial,trivial,rfl,rfl,rfl⟩
 ·have e6:Up (E,C,G) (evD (E,C,G) (doW line))=0:=bne_eq_false_iff_eq.1 h6
  have e:doF (E,C,G) line=(Dv (E,C,G) (evD (E,C,G) (doW line)),Kan ((E.length:Int)+1),0):=by unfold doF;rw[if_neg (by rw[e1];decide),if_neg (by rw[h2];decide),if_neg (by rw[h3];decide),if_neg (by rw[e5];decide),if_neg (by rw[e6];decide)]
  have ea:Vm (E,C,G) (evD (E,C,G) (doW line))=Dv (E,C,G) (evD (E,C,G) (doW line)):=by unfold Vm;rw[if_pos e6]
  have hi:=Jat ((E.length:Int)+1) (by omega) (by omega)
  rw[e,ea];exact⟨⟨by(repeat' first|apply And.intro|(first|omega|dsimp only;omega)),by omega⟩,trivial,trivial,rfl,rfl,rfl⟩
theorem K5b:Ok Tryz.prog 40 (Xx.con cDo):=X2 (Ub mixed K1e.ok (by kernel_rfl) (by kernel_rfl) (U1 (l:=([]:List (Nat×Func))) (by simp)) (fun xx yy=>na ()) (fun xx yy=>fun _=>na ()) fun T xx yy hT=>by obtain rfl:=hT _ rfl;exact K36 xx.1 xx.2.1 xx.2.2 yy.1)
abbrev Klp:=K1e.add K5b
theorem Kqa {h:Kn} {l:ByteArray} (hi:Y7 h) (hn:D5 h):Y7 (doF h l).1∧D5 (doF h l).1:=by
 unfold doF
 split
 ·exact⟨hi,hn⟩
 split
 ·exact⟨hi,hn⟩
 split
 ·exact⟨hi,hn⟩
 split
 ·exact⟨hi,hn⟩
 split
 ·exact⟨hi,hn⟩
 rename_i h5 h6
 have e5:do2 h (doW l)=0:=Decidable.of_not_not h5
 have hE:h.1.length<1000:=by
  cases hc:decide (1000≤(h.1.length:Int)) with
  |false=>have:=of_decide_eq_false hc;omega
  |true=>
   rw[do2,hc] at e5
   cases hx:(Y5 (doW l)).2<;>rw[hx] at e5<;>exact nomatch e5
 exact⟨Jf1 hi hE (Decidable.of_not_not h6),Krd hn (Decidable.of_not_not h6)⟩
abbrev Kmj:Sch:= .prod .str (.prod .str sI)
abbrev Say:=ByteArray×ByteArray×Int
def J15:Say:=(Ja,Ja,0)
def Kmi (r:ByteArray×Int) (x:Say):Bool:=bif r.1.toList !=x.2.1.toList then true else r.2 !=x.2.2
def Jdt:Kn→List Say→Kn×Bool
 |h,[]=>(h,true)
 |h,x::l=>bif Kmi (doF h x.1).2 x then((doF h x.1).1,false) else Jdt (doF h x.1).1 l
def J77:Xx:={T? :=some 212,s:=Jis,args:=[.val false (.list 147 Kmj)],ress:=[Bo],pre:=fun h (l,_)=>[Y7 h,D5 h,l.length≤1000000,∀x∈l,x.1.size≤1000000],spec:=fun h (l,_)=>((Jdt h l).2,()),post:=fun h (l,_)=>(Jdt h l).1}
abbrev Jw4 (h0:Kn) (l:List Say):Ann:={X:=Kn×Nat,σ:=fun(h,k)=>⟨6,[(0, .one (.ptr 1 0)),(11, .one (.sl 5)),(12, .one (.int .i64 l.length)),(13, .one (.int .i64 k))],[(0, .sus [(0, .one (.ptr 1 0))]),(1, .box 212 [.sl 2, .sl 3, .sl 4]),(2, .own 67 sEv h.1),(3, .own 67 sEv h.2.1),(4, .own 105 Jm3 h.2.2),(5, .imm 147 Kmj l)]⟩,inv:=fun(h,k)=>Y7 h∧D5 h∧k≤l.length∧Jdt h (l.drop k)=Jdt h0 l,mu:=fun(_,k)=>l.length-k}
def Kfe (a:List Say) (b:Kn×Nat):=List.getD a b.2 (B0,B0,0)
def Kel (a:Kn×Nat) (b:List Say):=doF (Jyi a) (Kfe b a).1
def Kxt (a:Kn×Nat) (b:List Say):=(Kel a b).2
def Kiz (a:Kn×Nat) (b:List Say):=(Kel a b).1.2
theorem K1j (E C:List Ev) (G:List Reg) (l:List Say):wpFO Tryz.prog Klp.g (Xr (Jw4 (E,C,G) l)) (fun _=>na ()) (Sx.look ([]:List (Nat×Func))) Tryz.f66 J77 212 (E,C,G) (l,()):=by
 refine(by kernel_rfl:(Y7 (E,C,G)→D5 (E,C,G)→List.length l≤1000000→(∀(x:ByteArray×ByteArray×Int),x∈l→ByteArray.size x.1≤1000000)→Br false (Sf true (Sf 212 ((E,C,G)=(Jdt (E,C,G) l).1∧false=(Jdt (E,C,G) l).2))) (∃(x:(List Ev×List Ev×List Reg)×Nat),Si (Ln l) (0=Nc x.2∧E=x.1.1∧C=x.1.2.1∧G=x.1.2.2∧l=l)∧(Y7 x.1∧D5 x.1∧x.2≤List.length l∧Jdt x.1 (List.drop x.2 l)=Jdt (E,C,G) l)∧∀(x:Kn×Nat),Y7 x.1∧D5 x.1∧x.2≤List.length l∧Jdt x.1 (List.drop x.2 l)=Jdt (E,C,G) l→Br (decide (Nc x.2<Ln l)) (Tw (Bd (Nc x.2) (Ln l))∧(Y7 (Jyi x)∧D5 (Jyi x)∧ByteArray.size (Kfe l x).1≤1000000)∧Br (bif !Lb (Kxt x l).1 (Kfe l x).2.1 then true else(Kxt x l).2 !=(Kfe l x).2.2) (Sf true (Sf 212 (((Kel x l).1.1,E2 (Kiz x l))=(Jdt (E,C,G) l).1∧false=(Jdt (E,C,G) l).2))) (Z33 x∧∃(y:(List Ev×List Ev×List Reg)×Nat),Si (Ln l) (Jyk x y∧(Kel x l).1.1=y.1.1∧(Kiz x l).1=y.1.2.1∧(Kiz x l).2=y.1.2.2∧l=l)∧(Y7 y.1∧D5 y.1∧y.2≤List.length l∧Jdt y.1 (List.drop y.2 l)=Jdt (E,C,G) l)∧List.length l-y.2<List.length l-x.2)) (Sf true (Sf 212 (Jyi x=(Jdt (E,C,G) l).1∧true=(Jdt (E,C,G) l).2)))))=_).mp ?_
 delta Z33 Jyk Jyi Kfe Kel Kxt Kiz Br Iw Bd Tw Sf Si Ln Nc B0 Lb E2
 intro hi hn hl hsz
 refine⟨fun h=>(nomatch h),fun _=>⟨((E,C,G),(0:Nat)),by(repeat' first|exact rfl|exact⟨⟩|apply And.intro|omega|dsimp only;omega),⟨hi,hn,Nat.zero_le _,rfl⟩,fun(x:Kn×Nat) hx=>⟨fun hlt=> ?_,fun hlt=> ?_⟩⟩⟩
 ·obtain⟨h,k⟩:=x
  obtain⟨k1,k2,k3,k4⟩:=hx
  have hlt:k<l.length:=by simpa using hlt
  dsimp only at k1 k2 k3 k4
  have hz:(({data:={toList:=[]}}:ByteArray),({data:={toList:=[]}}:ByteArray),(0:Int))=J15:=rfl
  simp only[hz,Prod.eta]
  rw[Jq (d:=J15) hlt,Jdt] at k4
  have hd:=Kqa (l:=(l.getD k J15).1) k1 k2
  refine⟨by(repeat' first|apply And.intro|(first|omega|dsimp only;omega)),⟨k1,k2,hsz _ (Jc hlt)⟩,fun h1=> ?_,fun h1=> ?_⟩
  ·have e:Kmi (doF h (l.getD k J15).1).2 (l.getD k J15)=true:=h1
   rw[e,cond_true] at k4
   rw[←k4]
   exact⟨trivial,trivial,rfl,rfl⟩
  ·have e:Kmi (doF h (l.getD k J15).1).2 (l.getD k J15)=false:=h1
   rw[e,cond_false] at k4
   exact⟨by(repeat' first|apply And.intro|(first|omega|dsimp only;omega)),((doF h (l.getD k J15).1).1,k+1),by(repeat' first|exact rfl|exact⟨⟩|apply And.intro|omega|dsimp only;omega),⟨hd.1,hd.2,by(first|omega|dsimp only;omega),k4⟩,by(first|omega|dsimp only;omega)⟩
 ·obtain⟨h,k⟩:=x
  obtain⟨k1,k2,k3,k4⟩:=hx
  have hlt:¬k<l.length:=by simpa using hlt
  have e:k=l.length:=by dsimp only at k3;omega
  rw[e,List.drop_length,Jdt] at k4
  rw[←k4]
  exact⟨rfl,rfl,rfl,rfl⟩
theorem K45:Ok Tryz.prog 66 (Xx.con J77):=X2 (Ub mixed Klp.ok (by kernel_rfl) (by kernel_rfl) (U1 (l:=([]:List (Nat×Func))) (by simp)) (fun xx yy=>Xr (Jw4 (xx.1,xx.2.1,xx.2.2) yy.1)) (fun xx yy=>fun _=>na ()) fun T xx yy hT=>by obtain rfl:=hT _ rfl;exact K1j xx.1 xx.2.1 xx.2.2 yy.1)
abbrev K2t:=Klp.add K45
def Kbf:Con:={args:=[.val false (.list 130 Hk), .fn [(true,Hk)] (true,Jtx)],ress:=[(false, .list 129 Jtx)],owns:=[true],pre:=fun(l,(q,_),_)=>[l.length≤1000000,∀x∈l,Uq (q (x,()))],spec:=fun(l,(_,f),_)=>(l.map fun x=>f (x,()),())}
def Kev (a:Ord×Unit→Jqs) (b:Nat) (c:List Ord):=List.map (fun(x:Ord)=>a (x,PUnit.unit)) (List.take b c)
def Kvg (a:Ord×Unit→Jqs) (b:Nat) (c:List Ord):=List.length (Kev a b c)
def Ks2 (a:Ord×Unit→Jqs) (b:List Ord) (c:Nat):=a (Kc5 b c)
def Ks1 (a:Ord×Unit→Jqs) (b:List Ord) (c:Nat):=(Ks2 a b c).2
def Ks0 (a:Ord×Unit→Jqs) (b:List Ord) (c:Nat):=(Ks1 a b c).2
def Ksz (a:Ord×Unit→Jqs) (b:List Ord) (c:Nat):=(Ks0 a b c).2
theorem Kpi:Ok Tryz.prog 125 Kbf:=okW K2t Tryz.f125 (fun xx=>Xr (Jba 130 129 Hk xx.1 (true,Jtx) true xx.2.1.1 xx.2.1.2)) fun xx=>by
 obtain⟨(l:List Ord),⟨(q:Ord×Unit→List Prop),(f:Ord×Unit→Jqs)⟩,_⟩:=xx
 refine(by kernel_rfl:(Z53 l→Kkm l q→∃(x:Nat),Si (Ln l) (0=Nc x∧Sf l ((fun(x:Ord×PUnit)=>q x)=q∧(fun(x:Ord×PUnit)=>f x)=f∧Kvg f x l=0))∧x≤List.length l∧∀(x:Nat),x≤List.length l→Br (decide (Nc x<Ln l)) (Tw (Bd (Nc x) (Ln l))∧(Kgf q l x∧(Kvg f x l+1)*56≤140737488355328)∧Z16 x∧∃(y:Nat),Si (Ln l) (Z82 x y∧Sf l ((fun(x:Ord×PUnit)=>q x)=q∧(fun(x:Ord×PUnit)=>f x)=f∧Kev f x l++[((Ks2 f l x).1,(Ks1 f l x).1,(Ks0 f l x).1,(Ksz f l x).1,E2 (Ksz f l x).2)]=Kev f y l))∧y≤List.length l∧List.length l-y<List.length l-x) (Kev f x l=List.map (fun(x:Ord)=>f (x,PUnit.unit)) l))=_).mp ?_
 delta Z16 Z53 Z65 Z82 Jc3 Ke8 Kkm Ke7 Kkj Kkf Kkb Kka Kev Kvg Kc5 Ks2 Ks1 Ks0 Ksz Kgf Br Iw Bd Tw Sf Si Ln Nc B0 E2
 intro hb hq
 refine⟨(0:Nat),⟨rfl,rfl,rfl,rfl,rfl,by simp⟩,Nat.zero_le _,fun(k:Nat) hk=>⟨fun h=> ?_,fun h=> ?_⟩⟩
 ·have hlt:k<l.length:=by simpa using h
  refine⟨by omega,⟨hq (l.getD k Ki) (Jc hlt),by simp only[List.length_map,List.length_take];omega⟩,by omega,(k+1:Nat),⟨rfl,by simp,rfl,rfl,rfl, ?_⟩,by omega,by omega⟩
  rw[←U5 (d:=Ki) hlt,List.map_append];rfl
 ·have hlt:¬k<l.length:=by simpa using h
  rw[List.take_of_length_le (by omega)]
abbrev K69:=K2t.add Kpi
def Zu (l:List Ev):List Jqs:=(Ji l).2.2.2.1.map (Ut (Ji l).2.1 (Ji l).2.2.2.2.1)
abbrev K2s:=K69
def Jmb (l:List Ev) (a b:ByteArray):Int:=Jg [opE l [a,b],bif a.toList==b.toList then 24 else 0]
def Jw8 (l:List Ev) (a b:ByteArray):Int:=if Jmb l a b=0 then Di (Ji l).2.1 (Ji l).2.2.2.1 (Ji l).2.2.2.2.1 a b else 0
def J5i:Con:={args:=[.val false (.list 67 sEv),aS,aS],ress:=[I,I],owns:=[],pre:=fun(l,_)=>[lOk l],spec:=fun(l,a,b,_)=>(Jw8 l a b,Jmb l a b,())}
def Kz9 (a:List Ev) (b c:Bt):=Jg [opE a [b,c],bif Lb b c then 24 else 0]
theorem K48:Ok Tryz.prog 44 J5i:=okW K2s Tryz.f44 na fun xx=>by
 obtain⟨(l:List Ev),(a:ByteArray),(b:ByteArray),_⟩:=xx
 refine(by kernel_rfl:(lOk l→(lOk l∧2≤1000000)∧2≤1000000∧Br (Kz9 l a b !=0) (0=Jw8 l a b∧Kz9 l a b=Jmb l a b) (Jx9 l∧Di (Ji l).2.1 (Ji l).2.2.2.1 (Ji l).2.2.2.2.1 a b=Jw8 l a b∧0=Jmb l a b))=_).mp ?_
 delta Kz9 J2y Jx9 Br Lb E2
 intro hl
 refine⟨⟨hl,by decide⟩,by decide,fun h=> ?_,fun h=> ?_⟩
 ·have h:Jmb l a b≠0:=bne_iff_ne.1 h
  exact⟨by unfold Jw8;rw[if_neg h],rfl⟩
 ·have h:Jmb l a b=0:=bne_eq_false_iff_eq.1 h
  exact⟨Fw,by unfold Jw8;rw[if_pos h],h.symm⟩
abbrev K68:=K2s.add K48
abbrev K2r:=K68
def Jbs (l:List Ev):(Int×Int)×Int:=if opE l []=0 then Kaj (Ji l).2.1 (Ji l).2.2.2.1 (Ji l).2.2.2.2.1 else((0,0),opE l [])
def J43:Con:={args:=[.val false (.list 67 sEv)],ress:=[(true,Hv),I],owns:=[],pre:=fun(l,_)=>[lOk l],spec:=fun(l,_)=>((Jbs l).1,(Jbs l).2,())}
abbrev Jw0 (l:List Ev) (B:List Jqs):Ann:={X:=Nat×Int×Int,σ:=fun(k,s,g)=>⟨9,[(2, .one (.ptr 1 0)),(6, .one (.int .i64 s)),(7, .one (.int .i64 g)),(23, .one (.sl 8)),(24, .one (.int .i64 B.length)),(25, .one (.int .i64 k))],[(1, .box 54 [.int .i64 0, .int .i64 0]),(8, .own 129 Jtx B)]⟩,inv:=fun(k,s,g)=>k≤B.length∧(0≤s∧s≤48000*k)∧(0≤g∧g≤s)∧Jth (B.drop k) (s,g)=Jth B (0,0),mu:=fun(k,_)=>B.length-k}
def Kwv (a:List Ev):=List.map (fun(x:Ord)=>Ut (Ji a).2.1 (Ji a).2.2.2.2.1 x) (Ji a).2.2.2.1
def Kwr (a:List Ev) (b:Nat×Int×Int):=(List.getD (Zu a) b.1 (B0,0,0,Z65)).2.2
def Kwm (a:Nat×Int×Int) (b:List Ev):=a.2.1+(Kwr b a).1
def Kwi (a:Nat×Int×Int) (b:List Ev):=a.2.2+(Kwr b a).2.1
def Kg2 (a:Nat×Int×Int) (b:List Ev):=a.1≤List.length (Zu b)∧(0≤a.2.1∧a.2.1≤48000*Nc a.1)∧(0≤a.2.2∧a.2.2≤a.2.1)∧Jth (List.drop a.1 (Zu b)) (E2 a.2)=Jth (Zu b) (0,0)
theorem K47:Ok Tryz.prog 46 J43:=okW K2r Tryz.f46 (fun xx=>Xr (Jw0 xx.1 (Zu xx.1))) fun xx=>by
 obtain⟨(l:List Ev),_⟩:=xx
 refine(by kernel_rfl:(lOk l→(lOk l∧0≤1000000)∧Br (opE l [] !=0) ((0,0)=(Jbs l).1∧opE l []=(Jbs l).2) ((List.length (Ji l).2.2.2.1≤1000000∧∀(x:Ord),x∈(Ji l).2.2.2.1→Jx9 l∧x∈(Ji l).2.2.2.1)∧∃(x:Nat×Int×Int),(0=x.2.1∧0=x.2.2∧Ln (Kwv l)=Ln (Zu l)∧0=Nc x.1∧Si 0 (Si 0 (Kwv l=Zu l)))∧Kg2 x l∧∀(x:Nat×Int×Int),Kg2 x l→Br (decide (Nc x.1<Ln (Zu l))) (Tw (Bd (Nc x.1) (Ln (Zu l)))∧Iw (Kwm x l)∧Iw (Kwi x l)∧Iw (Nc x.1+1)∧∃(y:Nat×Int×Int),(Kwm x l=y.2.1∧Kwi x l=y.2.2∧Si (Ln (Zu l)) (Nc x.1+1=Nc y.1∧Si 0 (Si 0 (Zu l=Zu l))))∧Kg2 y l∧List.length (Zu l)-y.1<List.length (Zu l)-x.1) (Br (x.2.1==0) ((0,0)=(Jbs l).1∧6=(Jbs l).2) ((Iw (x.2.1-x.2.2)∧(0≤x.2.1-x.2.2∧x.2.1-x.2.2≤1000000000000)∧1≤x.2.1∧x.2.1≤1000000000000)∧E2 (J2e (x.2.1-x.2.2) x.2.1)=(Jbs l).1∧0=(Jbs l).2))))=_).mp ?_
 delta Z65 J2y Jx9 Kwv Kwr Kwm Kwi Kg2 Br Iw Bd Tw Si Ln Nc B0 E2
 intro hl
 have hr:=Fw (l:=l)
 have nO:(Ji l).2.2.2.1.length≤32:=hr.nO
 simp only[Prod.eta]
 refine⟨⟨hl,by decide⟩,fun h=> ?_,fun h=>⟨⟨Nat.le_trans nO (by decide),fun x hx=>⟨hr,hx⟩⟩, ?_⟩⟩
 ·have h:=bne_iff_ne.1 h
  unfold Jbs;rw[if_neg h]
  exact⟨rfl,rfl⟩
 have h:opE l []=0:=bne_eq_false_iff_eq.1 h
 have hB:∀b∈Zu l,J3g b:=fun b hb=>by
  obtain⟨x,hx,rfl⟩:=List.mem_map.1 hb
  exact Ja6 hr hx
 have nB:(Zu l).length≤32:=by unfold Zu;rw[List.length_map];exact nO
 refine⟨((0:Nat),0,0),by(repeat' first|exact rfl|exact⟨⟩|apply And.intro|omega|dsimp only;omega),⟨Nat.zero_le _,by(first|omega|dsimp only;omega),by(first|omega|dsimp only;omega),rfl⟩,fun(x:Nat×Int×Int) hk=>⟨fun h1=> ?_,fun h1=> ?_⟩⟩
 ·obtain⟨k,s,g⟩:=x
  have hlt:k<(Zu l).length:=by simpa using h1
  have hx:=Jc (d:=Jwk) hlt
  have hb:=hB _ hx
  obtain⟨k1,k2,k3,k4⟩:=hk
  rw[Jq (d:=Jwk) hlt,Jth] at k4
  have m1:=hb.sent
  have m2:=hb.got
  have hzb:((({data:={toList:=[]}}:ByteArray),(0:Int),(0:Int),(0:Int),(0:Int),(0:Int)):Jqs)=Jwk:=rfl
  dsimp only at k1 k2 k3 k4
  simp only[hzb]
  exact⟨by(repeat' first|apply And.intro|omega),by(repeat' first|apply And.intro|omega),by(repeat' first|apply And.intro|omega),by(repeat' first|apply And.intro|omega),(k+1,s+((Zu l).getD k Jwk).2.2.1,g+((Zu l).getD k Jwk).2.2.2.1),by(repeat' first|exact rfl|exact⟨⟩|apply And.intro|omega|dsimp only;omega),⟨by(first|omega|dsimp only;omega),by(first|omega|dsimp only;omega),by(first|omega|dsimp only;omega),k4⟩,by(first|omega|dsimp only;omega)⟩
 ·obtain⟨k,s,g⟩:=x
  have hlt:¬k<(Zu l).length:=by simpa using h1
  obtain⟨k1,k2,k3,k4⟩:=hk
  have:k=(Zu l).length:=by dsimp only at k1;omega
  rw[this,List.drop_length,Jth] at k4
  have e:Jbs l=if s=0 then((0,0),6) else(J2e (s-g) s,0):=by
   unfold Jbs Kaj
   rw[if_pos h]
   rw[show((Ji l).2.2.2.1.map (Ut (Ji l).2.1 (Ji l).2.2.2.2.1))=Zu l from rfl,←k4]
  dsimp only at k2 k3
  rw[e]
  refine⟨fun h2=> ?_,fun h2=> ?_⟩
  ·have h2:s=0:=by simpa using h2
   rw[if_pos h2]
   exact⟨rfl,rfl⟩
  ·have h2:s≠0:=by simpa using h2
   rw[if_neg h2]
   refine⟨⟨?_, ?_, ?_⟩,rfl,rfl⟩
   all_goals dsimp only
   all_goals (repeat' first|apply And.intro|omega)
abbrev K2q:=K2r.add K47
def K55:Con:={args:=[.ref 167 Jis],ress:=[(true,Jm3)],owns:=[],pre:=fun(h,_)=>[Kf h],spec:=fun(h,_)=>(Kd h.2.2,())}
theorem K4x:Ok Tryz.prog 75 K55:=okW K2q Tryz.f75 na fun xx=>by
 obtain⟨⟨(E:List Ev),(C:List Ev),(G:List Reg)⟩,_⟩:=xx
 refine(by kernel_rfl:(Kf (E,C,G)→Br (V5 G) (V4 G∧Yf G=Kd G) (Vw=Kd G))=_).mp ?_
 delta V5 L5 V4 Vw D2 Jae D1 Ho Fp Hn L4 Zx Fo Yf Br Iw Bd Tw Ln Gt E2
 intro hh
 have n1:E.length≤1000:=hh.nE
 have n2:C.length≤E.length:=hh.nC
 have n3:G.length=C.length:=hh.nG
 have hG:((G.length:Int)-1).toNat=G.length-1:=by omega
 refine⟨fun h=> ?_,fun h=> ?_⟩
 ·have h:(0:Int)<G.length:=of_decide_eq_true h
  rw[hG]
  exact⟨by(repeat' first|apply And.intro|omega),rfl⟩
 ·exact(Kl h).symm
abbrev K2p:=K2q.add K4x
def Kbk:Con:={args:=[.val false (.list 67 sEv), .fn [(true,sEv)] Bo],ress:=[(false, .list 67 sEv)],owns:=[true],pre:=fun(l,(q,_),_)=>[l.length≤1000000,∀x∈l,Uq (q (x,()))],spec:=fun(l,(_,f),_)=>(l.filter fun x=>f (x,()),())}
def J29 (a:Ev×Unit→Bool) (b:Nat) (c:List Ev):=List.filter (fun(x:Ev)=>a (x,PUnit.unit)) (List.take b c)
theorem K4u:Ok Tryz.prog 78 Kbk:=okW K2p Tryz.f78 (fun xx=>Xr (Jn9 67 67 sEv xx.1 true xx.2.1.1 xx.2.1.2)) fun xx=>by
 obtain⟨(l:List Ev),⟨(q:Ev×Unit→List Prop),(f:Ev×Unit→Bool)⟩,_⟩:=xx
 refine(by kernel_rfl:(Z35 l→J8u l q→∃(x:Nat),Si (Ln l) (0=Nc x∧Sf l ((fun(x:Ev×PUnit)=>q x)=q∧(fun(x:Ev×PUnit)=>f x)=f∧List.length (J29 f x l)=0))∧x≤List.length l∧∀(x:Nat),x≤List.length l→Br (Z71 x l) (Tw (Z9 x l)∧J8a q l x∧Br (f (J55 l x)) ((List.length (J29 f x l)+1)*88≤140737488355328∧Z16 x∧∃(y:Nat),Si (Ln l) (Z82 x y∧Sf l ((fun(x:Ev×PUnit)=>q x)=q∧(fun(x:Ev×PUnit)=>f x)=f∧J29 f x l++[Kdb l x]=J29 f y l))∧J6e y l x) (Z16 x∧∃(y:Nat),Si (Ln l) (Z82 x y∧Sf l ((fun(x:Ev×PUnit)=>q x)=q∧(fun(x:Ev×PUnit)=>f x)=f∧J29 f x l=J29 f y l))∧J6e y l x)) (J29 f x l=List.filter (fun(x:Ev)=>f (x,PUnit.unit)) l))=_).mp ?_
 delta Z9 Z16 Z35 Z71 Z82 Jyg J29 D4 J22 J6i Jxe J0y J6e Jxd J8u Kdb J55 J8a Br Iw Bd Tw Sf Si Ln Nc B0 E2
 intro hb hq
 refine⟨(0:Nat),⟨rfl,rfl,rfl,rfl,rfl,by simp⟩,Nat.zero_le _,fun(k:Nat) hk=>⟨fun h=> ?_,fun h=> ?_⟩⟩
 ·have hlt:k<l.length:=by simpa using h
  have hf:=Jfk (p:=fun x=>f (x,())) hk
  have ht:=U5 (d:=ev0) hlt
  refine⟨by omega,hq (l.getD k ev0) (Jc hlt),fun h1=> ?_,fun h1=> ?_⟩
  ·have h1:f (l.getD k ev0,())=true:=h1
   refine⟨by show((List.filter (fun x=>f (x,())) (List.take k l)).length+1)*88≤_;omega,by omega,(k+1:Nat),⟨rfl,by simp,rfl,rfl,rfl, ?_⟩,by omega,by omega⟩
   rw[←ht,List.filter_append,List.filter_cons,if_pos h1];rfl
  ·have h1:f (l.getD k ev0,())=false:=h1
   refine⟨by omega,(k+1:Nat),⟨rfl,by simp,rfl,rfl,rfl, ?_⟩,by omega,by omega⟩
   rw[←ht,List.filter_append,List.filter_cons,if_neg (by rw[h1];decide)];simp
 ·have hlt:¬k<l.length:=by simpa using h
  rw[List.take_of_length_le (by omega)]
abbrev K2o:=K2p.add K4u
def Kbh:Con:={args:=[.val false (.list 67 sEv), .fn [(true,sEv)] (true,sEv)],ress:=[(false, .list 67 sEv)],owns:=[true],pre:=fun(l,(q,_),_)=>[l.length≤1000000,∀x∈l,Uq (q (x,()))],spec:=fun(l,(_,f),_)=>(l.map fun x=>f (x,()),())}
def J9g (a:Ev×Unit→Ev) (b:Nat) (c:List Ev):=List.map (fun(x:Ev)=>a (x,PUnit.unit)) (List.take b c)
def Kt7 (a:Ev×Unit→Ev) (b:List Ev) (c:Nat):=a (J55 b c)
def Kt6 (a:Ev×Unit→Ev) (b:List Ev) (c:Nat):=(Kt7 a b c).2
def Kt5 (a:Ev×Unit→Ev) (b:List Ev) (c:Nat):=(Kt6 a b c).2
theorem K4v:Ok Tryz.prog 77 Kbh:=okW K2o Tryz.f77 (fun xx=>Xr (Jba 67 67 sEv xx.1 (true,sEv) true xx.2.1.1 xx.2.1.2)) fun xx=>by
 obtain⟨(l:List Ev),⟨(q:Ev×Unit→List Prop),(f:Ev×Unit→Ev)⟩,_⟩:=xx
 refine(by kernel_rfl:(Z35 l→J8u l q→∃(x:Nat),Si (Ln l) (0=Nc x∧Sf l ((fun(x:Ev×PUnit)=>q x)=q∧(fun(x:Ev×PUnit)=>f x)=f∧List.length (J9g f x l)=0))∧x≤List.length l∧∀(x:Nat),x≤List.length l→Br (Z71 x l) (Tw (Z9 x l)∧(J8a q l x∧(List.length (J9g f x l)+1)*88≤140737488355328)∧Z16 x∧∃(y:Nat),Si (Ln l) (Z82 x y∧Sf l ((fun(x:Ev×PUnit)=>q x)=q∧(fun(x:Ev×PUnit)=>f x)=f∧J9g f x l++[((Kt7 f l x).1,(Kt6 f l x).1,(Kt5 f l x).1,E2 (Kt5 f l x).2)]=J9g f y l))∧J6e y l x) (J9g f x l=List.map (fun(x:Ev)=>f (x,PUnit.unit)) l))=_).mp ?_
 delta Z9 Z16 Z35 Z71 Z82 Jyg D4 J9g J22 J6i Jxe J0y J6e Jxd J8u Kdb J55 Kt7 Kt6 Kt5 J8a Br Iw Bd Tw Sf Si Ln Nc B0 E2
 intro hb hq
 refine⟨(0:Nat),⟨rfl,rfl,rfl,rfl,rfl,by simp⟩,Nat.zero_le _,fun(k:Nat) hk=>⟨fun h=> ?_,fun h=> ?_⟩⟩
 ·have hlt:k<l.length:=by simpa using h
  refine⟨by omega,⟨hq (l.getD k ev0) (Jc hlt),by simp only[List.length_map,List.length_take];omega⟩,by omega,(k+1:Nat),⟨rfl,by simp,rfl,rfl,rfl, ?_⟩,by omega,by omega⟩
  rw[←U5 (d:=ev0) hlt,List.map_append];rfl
 ·have hlt:¬k<l.length:=by simpa using h
  rw[List.take_of_length_le (by omega)]
abbrev K2n:=K2o.add K4v
def Vr:List Ev→Nat→List Ev
 |[],_=>[]
 |e::l,i=>((i:Int)+1,e.2)::Vr l (i+1)
def V6 (l:List Ev) (s:ByteArray):Int:=Jg [(Je l).2.2,bif (bif (Je l).2.2==0 then !Vi (Ji l) 0 s else false) then 10 else 0]
def Ya (l:List Ev) (s:ByteArray):List Ev:=(Je l).1.2.1.filter fun e=>abS (Ji l) e s
def Vu (l:List Ev) (s:ByteArray):List Ev:=if V6 l s=0 then Vr (Ya l s) 0 else[]
def Kau:Con:={args:=[.val false (.list 67 sEv),aS],ress:=[(false, .list 67 sEv),I],owns:=[],pre:=fun(l,_)=>[lOk l],spec:=fun(l,s,_)=>(Vu l s,V6 l s,())}
theorem Xg:∀(l:List Ev) (i:Nat),(Vr l i).length=l.length
 |[],_=>rfl
 |_::l,i=>by unfold Vr;rw[List.length_cons,List.length_cons,Xg l]
theorem Jbn:∀(a b:List Ev) (i:Nat),Vr (a++b) i=Vr a i++Vr b (i+a.length)
 |[],_,_=>rfl
 |x::a,b,i=>by
  rw[List.cons_append,Vr,Vr,Jbn a b (i+1),List.cons_append,List.length_cons,show i+1+a.length=i+(a.length+1) by omega]
theorem Jt9 {L:List Ev} {k:Nat} (h:k<L.length):(Vr (L.take k) 0++L.drop k).getD k ev0=L.getD k ev0:=by
 have hl:(Vr (L.take k) 0).length=k:=by rw[Xg,List.length_take];omega
 rw[Jq (d:=ev0) h,List.getD_eq_getElem?_getD,List.getElem?_append_right (by omega),hl,Nat.sub_self]
 rfl
theorem Jt8 {L:List Ev} {k:Nat} (h:k<L.length):(Vr (L.take k) 0++L.drop k).set k ((k:Int)+1,(L.getD k ev0).2)=Vr (L.take (k+1)) 0++L.drop (k+1):=by
 have hl:(Vr (L.take k) 0).length=k:=by rw[Xg,List.length_take];omega
 rw[Jq (d:=ev0) h,List.set_append_right _ _ (by omega),hl,Nat.sub_self,List.set_cons_zero,←U5 (d:=ev0) h,Jbn,List.append_assoc,List.length_take,Nat.min_eq_left (by omega),Nat.zero_add]
 rfl
theorem Joz:∀{l:List Ev} {h:Kn},∀e∈(Jc5 h l).1.2.1,e∈h.2.1∨e∈l
 |[],_,e,he=> .inl he
 | x :: l, h, e, he => by
  unfold Jc5 at he
  by_cases ha:Up h x=0
  ·rw[if_pos ha] at he
   rcases Joz e he with h1|h1
   ·unfold Dv at h1
    cases hk:x.2.1.toList==J0.toList with
    |true=>rw[hk,cond_true] at h1;exact .inl (List.mem_of_mem_take h1)
    |false=>
     rw[hk,cond_false] at h1
     rcases Yj h1 with h2|rfl
     ·exact .inl h2
     ·exact .inr (List.mem_cons_self ..)
   ·exact .inr (List.mem_cons_of_mem _ h1)
  ·rw[if_neg ha] at he;exact .inl he
theorem Jg7 {l:List Ev}:∀e∈(Je l).1.2.1,e∈l:=by
 unfold Je
 by_cases h:1000<l.length
 ·rw[if_pos h];intro e he;cases he
 ·rw[if_neg h];intro e he;exact(Joz e he).elim (fun h=>by cases h) id
abbrev J5p (l:List Ev) (s:ByteArray):Ann:={X:=Kn×Nat,σ:=fun(h,k)=>⟨8,[(5, .one (.ptr 3 0)),(14, .one (.sl 0)),(15, .one (.int .i64 l.length)),(16, .one (.int .i64 k))],[(0, .imm 67 sEv l),(1, .box 9 [.str s]),(2, .sus [(3, .one (.ptr 1 0))]),(3, .box 167 [.sl 5, .sl 6, .sl 7]),(5, .own 67 sEv h.1),(6, .own 67 sEv h.2.1),(7, .own 105 Jm3 h.2.2)]⟩,inv:=fun(h,k)=>Y7 h∧h.1.length=k∧k≤l.length∧l.length≤1000∧Jc5 h (l.drop k)=Je l,mu:=fun(_,k)=>l.length-k}
abbrev Kcd (L:List Ev):Ann:={X:=Nat,σ:=fun k=>⟨1,[(11, .one (.sl 0)),(44, .one (.sl 0)),(45, .one (.int .i64 L.length)),(46, .one (.int .i64 k))],[(0, .own 67 sEv (Vr (L.take k) 0++L.drop k))]⟩,inv:=fun k=>k≤L.length,mu:=fun k=>L.length-k}
def J6a (a:Nat) (b:List Ev) (c:Bt):=Vr (List.take a (Ya b c)) 0++List.drop a (Ya b c)
def J59 (a:Ev):=List.length a.2.2.1≤1000000∧List.length a.2.2.2.1≤1000000
def Kdx (a:Kn×Nat):=((Kd a.1.2.2).1,(Kd a.1.2.2).2.1,(Kd a.1.2.2).2.2.1,(Kd a.1.2.2).2.2.2.1,(Kd a.1.2.2).2.2.2.2.1,E2 (Kd a.1.2.2).2.2.2.2.2)
def Kv3 (a:Kn×Nat):=Jl (Kdx a)
def Khc (a:Kn×Nat) (b:Bt):=List.filter (fun(x:Ev)=>abS (Kdx a) x b) a.1.2.1
def Kus (a:Kn×Nat) (b:Bt):=List.map (fun(x:Ev)=>x) (Khc a b)
def Kuh (a:Kn×Nat) (b:Bt):=Jg [0,bif bif true then !Vi (Kdx a) 0 b else false then 10 else 0]
def Ktm (a:Kn×Nat) (b:List Ev):=J79 a b==0
def Ktk (a:Kn×Nat) (b:List Ev):=Ktm a b=true
def J7s (a:Kn×Nat) (b:List Ev) (c:Bt):=Jg [J79 a b,bif bif Ktm a b then Kjg c else false then 10 else 0]
theorem K5q:Ok Tryz.prog 16 Kau:=Jzd K2n Tryz.f16 (U1 (l:=([(74,Tryz.f74)]:List (Nat×Func))) (List.forall_mem_cons.2 ⟨by kernel_rfl,by simp⟩)) (fun xx=>Xr (Kcd (Ya xx.1 xx.2.1))) (fun xx=>fun f id=>if f=74 then some (J5p xx.1 xx.2.1) else none) fun xx=>by
 obtain⟨(l:List Ev),(s:ByteArray),_⟩:=xx
 refine(by kernel_rfl:(lOk l→Br (decide (1000<Ln l)) ((Z38∧Jbc∧2≤1000000)∧Br true (Sf true ([]=Vu l s∧Jg [5,0]=V6 l s)) (Tw False)) (∃(x:(List Ev×List Ev×List Reg)×Nat),Si (Ln l) (0=Nc x.2∧Sf l (Sf s (Kjj x)))∧Kd5 x l∧∀(x:Kn×Nat),Kh3 x l→Br (decide (Nc x.2<Ln l)) (Tw (Z27 x l)∧Kgm x l∧Br (Kc7 x l) (Z33 x∧((Ktk x l→False)∧(Ktk x l→Yv)∧2≤1000000)∧Br (J7s x l s !=0) (Sf true ([]=Vu l s∧J7s x l s=V6 l s)) (Tw False)) (Z33 x∧∃(y:(List Ev×List Ev×List Reg)×Nat),Si (Ln l) (Jyk x y∧Sf l (Sf s (J1k x l y)))∧Khb y l x)) (((true=true→Kfn x)∧(true=true→Kv3 x)∧2≤1000000)∧Br (Kuh x s !=0) (Sf true ([]=Vu l s∧Kuh x s=V6 l s)) (Kfn x∧(List.length x.1.2.1≤1000000∧(∀(x_1:Ev),x_1∈x.1.2.1→Kv3 x∧Jge (Kdx x) x_1)∧List.length (Khc x s)≤1000000∧∀(x_1:Ev),x_1∈Khc x s→J59 x_1)∧∃(x_1:Nat),(Ln (Kus x s)=Ln (Ya l s)∧0=Nc x_1∧Kus x s=J6a x_1 l s)∧x_1≤List.length (Ya l s)∧∀(x:Nat),x≤List.length (Ya l s)→Br (decide (Nc x<Ln (Ya l s))) ((Z16 x∧Tw (Bd (Nc x) (Ln (J6a x l s))))∧Z16 x∧∃(y:Nat),Si (Ln (Ya l s)) (Z82 x y∧List.set (J6a x l s) x (Nc x+1,(List.getD (J6a x l s) x D4).2)=J6a y l s)∧y≤List.length (Ya l s)∧List.length (Ya l s)-y<List.length (Ya l s)-x) (Sf true (J6a x l s=Vu l s∧0=V6 l s))))))=_).mp ?_
 delta Z16 Z27 Z33 Z38 Z82 Jyk Jyi D4 Kfn J8y J8x J21 L5 J6a J59 Vw Yv Kjj Kjg Jbc Kec Keb Kh3 Kd5 Kdx Kv3 Khc Khb Kus Kuh Jx5 Kgp J79 Kgo Ktm Ktk Kgm Kc7 J7s J1k Br Iw Bd Tw Sf Si Ln Nc B0 E2
 intro hl
 refine⟨fun h=> ?_,fun h=> ?_⟩
 ·have e:Je l=(Zz,0,5):=by unfold Je;rw[if_pos (by have:=of_decide_eq_true h;omega)]
  have eE:V6 l s=5:=by unfold V6;rw[e];rfl
  refine⟨⟨fun h=>(by cases h),fun h=>(by cases h),by decide⟩,fun _=>⟨rfl, ?_,eE.symm⟩,fun h=>(by cases h)⟩
  unfold Vu;rw[if_neg (by rw[eE];decide)]
 have hn:l.length≤1000:=by have:=of_decide_eq_false h;omega
 have e0:Je l=Jc5 Zz l:=by unfold Je;rw[if_neg (by omega)]
 refine⟨(Zz,(0:Nat)),⟨rfl,rfl,rfl,rfl,rfl,rfl,rfl⟩,⟨Hd,rfl,Nat.zero_le _,hn,e0.symm⟩,fun(x:Kn×Nat) hx=>⟨fun h1=> ?_,fun h1=> ?_⟩⟩
 ·obtain⟨g,k⟩:=x
  obtain⟨hi,hk,hk2,_,hrun⟩:=hx
  dsimp only at hi hk hk2 hrun
  have hlt:k<l.length:=by simpa using h1
  rw[Jq (d:=ev0) hlt,Jc5] at hrun
  have hz:=hl.2 _ (Jc (d:=ev0) hlt)
  have hev:(0,({data:={toList:=[]}}:ByteArray),([]:List ByteArray),([]:List Int),({data:={toList:=[]}}:ByteArray))=ev0:=rfl
  simp only[hev,Prod.eta]
  refine⟨by omega,⟨hi.ok,(show g.1.length<1000 by omega),hz⟩,fun h2=> ?_,fun h2=> ?_⟩
  ·have n2:Up g (l.getD k ev0)≠0:=bne_iff_ne.1 h2
   rw[if_neg n2] at hrun
   have b2:(Up g (l.getD k ev0)==0)=false:=beq_eq_false_iff_ne.2 n2
   have eE:V6 l s=Up g (l.getD k ev0):=by
    unfold V6
    rw[←hrun]
    simp only[b2,cond_false]
    unfold Jg
    rw[if_neg n2]
   simp only[b2,cond_false]
   refine⟨by(repeat' first|apply And.intro|(first|omega|dsimp only;omega)),⟨fun h=>(nomatch h),fun h=>(nomatch h),by decide⟩,fun _=>⟨trivial, ?_, ?_⟩,fun h=> ?_⟩
   ·unfold Vu;rw[if_neg (by rw[eE];exact n2)]
   ·rw[eE];unfold Jg;rw[if_neg n2]
   ·have h:=bne_eq_false_iff_eq.1 h
    unfold Jg at h;rw[if_neg n2] at h;exact absurd h n2
  ·have z2:Up g (l.getD k ev0)=0:=bne_eq_false_iff_eq.1 h2
   rw[if_pos z2] at hrun
   have ea:Vm g (l.getD k ev0)=Dv g (l.getD k ev0):=by unfold Vm;rw[if_pos z2]
   rw[ea]
   have hk3:(Dv g (l.getD k ev0)).1.length=g.1.length+1:=Du
   exact⟨by(repeat' first|apply And.intro|(first|omega|dsimp only;omega)),(Dv g (l.getD k ev0),k+1),by(repeat' first|exact rfl|exact⟨⟩|apply And.intro|omega|dsimp only;omega),⟨Jf1 hi (by(first|omega|dsimp only;omega)) z2,by(first|omega|dsimp only;omega),by(first|omega|dsimp only;omega),hn,hrun⟩,by(first|omega|dsimp only;omega)⟩
 ·obtain⟨g,k⟩:=x
  obtain⟨hi,hk,hk2,_,hrun⟩:=hx
  dsimp only at hi hk hk2 hrun
  have hlt:¬k<l.length:=by simpa using h1
  have:k=l.length:=by omega
  rw[this,List.drop_length,Jc5] at hrun
  simp only[Prod.eta]
  have eR:Ji l=Kd g.2.2:=by unfold Ji;rw[←hrun];rfl
  have eE:V6 l s=Jg [0,bif bif true then !Vi (Kd g.2.2) 0 s else false then 10 else 0]:=by
   unfold V6;rw[←hrun,eR];rfl
  have eL:Ya l s=g.2.1.filter fun e=>abS (Kd g.2.2) e s:=by unfold Ya;rw[←hrun,eR]
  rw[←eE]
  have hA:Jme g:=by have:=Jo2 (l:=l);rw[←hrun] at this;exact this
  have nE:g.1.length≤1000:=hi.ok.nE
  have nC:g.2.1.length≤g.1.length:=hi.ok.nC
  have hsub:∀e∈g.2.1,e∈l:=by have:=Jg7 (l:=l);rw[←hrun] at this;exact this
  have hfl:=List.length_filter_le (fun e=>abS (Kd g.2.2) e s) g.2.1
  have hL:(Ya l s).length≤1000:=by rw[eL];omega
  refine⟨⟨fun _=>hi.ok,fun _=>X3 hi.ok,by decide⟩,fun h2=>⟨trivial, ?_,rfl⟩,fun h2=>⟨hi.ok,⟨Nat.le_trans nC (by omega),fun x hx=>⟨X3 hi.ok,J2b hi hA hx⟩,Nat.le_trans hfl (by omega),fun x hx=> ?_⟩,(0:Nat),⟨?_,rfl, ?_⟩,Nat.zero_le _,fun(k:Nat) hk=>⟨fun h3=> ?_,fun h3=> ?_⟩⟩⟩
  ·unfold Vu;rw[if_neg (bne_iff_ne.1 h2)]
  ·have:=hl.2 x (hsub x (List.mem_filter.1 hx).1)
   exact⟨this.1,this.2.1⟩
  ·rw[eL,List.map_id']
  ·rw[eL,List.map_id'];rfl
  ·have hlt:k<(Ya l s).length:=by simpa using h3
   have hev:(0,({data:={toList:=[]}}:ByteArray),([]:List ByteArray),([]:List Int),({data:={toList:=[]}}:ByteArray))=ev0:=rfl
   rw[hev,Jt9 hlt]
   refine⟨⟨by omega, ?_⟩,by omega,(k+1:Nat),⟨trivial,by simp,Jt8 hlt⟩,by omega,by omega⟩
   rw[List.length_append,Xg,List.length_take,List.length_drop]
   omega
  ·have hlt:¬k<(Ya l s).length:=by simpa using h3
   have:k=(Ya l s).length:=by omega
   have z:V6 l s=0:=bne_eq_false_iff_eq.1 h2
   refine⟨trivial, ?_,z.symm⟩
   unfold Vu
   rw[if_pos z,this,List.take_length,List.drop_length,List.append_nil]
abbrev K67:=K2n.add K5q
namespace Cmp
open Go.Sx
set_option maxHeartbeats 20000000
def Kqv:Con:={args:=[.val true Hv, .val true Hv],ress:=[I],owns:=[],pre:=fun(x,y,_)=>[-1000000000≤x.1∧x.1≤1000000000,-1000000000≤y.1∧y.1≤1000000000],spec:=fun(x,y,_)=>(x.1-y.1,())}
theorem ok98 [Sx.Dr]:Ok Tryz.prog 98 Kqv:=okW W82 Tryz.f98 na fun xx=>by
 obtain⟨⟨(a:Int),(b:Int)⟩,⟨(c:Int),(d:Int)⟩,_⟩:=xx
 refine(by kernel_rfl:((-1000000000)≤a∧a≤1000000000→(-1000000000)≤c∧c≤1000000000→Iw (a-c)∧a-c=a-c)=_).mp ?_
 delta Iw
 intro h1 h2
 exact⟨by omega,rfl⟩
abbrev W83 [Sx.Dr]:=W82.add ok98
end Cmp
end Go.Proofs.YtcibbcfiemeoiaaGreatDoor
